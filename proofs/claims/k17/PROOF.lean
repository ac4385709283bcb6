import PyProof.Rows.All
import Wide.All
import OpenK.AllK
import Wide.FinOn
import HandS.ForMost
import HandS.More
import HandS.Wide
import HandS.Flow
import HandS.TupAny
import HandS.IsInst
import HandS.Conv
import KE.DataFind
import HandS.SortInts
import HandS.Text
import HandS.StrMore
import HandS.SetFor
import HandS.CallSlots
import HandS.ExcOwn
import HandS.WordsExc
import HandS.Comp
import HandS.ExcIs
import HandS.HotCalls
import PyProof.AutoSeq1
import HandS.Walk
import HandS.TryOnly
import HandS.Defaults
import HandS.Head0
import HandS.Head1
import HandS.Head2
import HandS.HeadEnd
import HandS.HeadHook1
import HandS.HeadHook2
import PyProof.ExcBaseAll.ValueError
import PySem.Challenge.RW_tieseek_k17_pieces_of_a_text
import PyProof.StrLawsFrom
import HandS.Codes
set_option Elab.async false
set_option linter.all false
set_option maxRecDepth 100000
set_option maxHeartbeats 0
set_option exponentiation.threshold 3000
namespace Z
open PySem L2

inductive D where
  | non | bl (b : Bool) | int (i : Int) | str (x : Str)
  | tup (xs : List D) | lst (xs : List D)
  | dK (ks : List Key) (xs : List D)
  | dT (ks : List (List Key)) (xs : List D)
  | obj (c : Nat) (fs : List Str) (xs : List D)
  | bx (n : Nat)
instance : Inhabited D := ⟨.non⟩

/-- a text by its signs -/
def mkS (l : List Nat) : PySem.Str := ⟨l.toArray⟩
abbrev Rho := Nat → Option Addr
/-- the written part; the classes by number -/
structure Wr where
  K : PySem.W.Frag
  cl : Nat → Addr
  xc : Nat → Addr
  /-- within an except suite: the dead box that stands for the error, the error's address, its class -/
  xs : Option (Nat × Addr × Nat)

/-- all that H knows, H' knows alike -/
def Ex (H H' : Hp) : Prop := ∀ a o, H a = some o → H' a = some o
theorem Ex.refl (H : Hp) : Ex H H := fun _ _ h => h
theorem Ex.trans {H H1 H2 : Hp} (a : Ex H H1) (b : Ex H1 H2) : Ex H H2 := fun x o h => b x o (a x o h)
theorem Ex.new {H : Hp} {p : Addr} {o : HO} (h : H p = none) : Ex H (upd H p o) := fun a u e => by
  rw [upd_ne (ne_of_none e h)]; exact e
theorem ex_l {K : PySem.W.Frag} {H H' : Hp} {a : Addr} {xs : List V} (e : Ex H H') (h : SqL K H a xs) : SqL K H' a xs := by
  rcases h with (h | ⟨o, h⟩) | h
  · exact .inl (.inl (e _ _ h))
  · exact .inl (.inr ⟨o, e _ _ h⟩)
  · exact .inr h
theorem ex_t {K : PySem.W.Frag} {H H' : Hp} {a : Addr} {xs : List V} (e : Ex H H') (h : SqT K H a xs) : SqT K H' a xs := by
  rcases h with (h | ⟨o, h⟩) | h
  · exact .inl (.inl (e _ _ h))
  · exact .inl (.inr ⟨o, e _ _ h⟩)
  · exact .inr h
def RhoLe (ρ ρ' : Rho) : Prop := ∀ n a, ρ n = some a → ρ' n = some a

section
variable (W : Wr) (ρ : Rho) (G : Hp)
mutual
/-- the value v is d, read off G -/
def Rv : D → V → Prop
  | .non, v => v = .non
  | .bl b, v => v = .bl b
  | .int i, v => v = .int i
  | .str x, v => v = .str x
  | .tup xs, v => ∃ a vs, v = .ref a ∧ G a = some (.tup vs) ∧ RvL xs vs
  | .lst xs, v => ∃ a vs, v = .ref a ∧ SqL W.K G a vs ∧ RvL xs vs
  | .dK ks xs, v => ∃ a kvs, v = .ref a ∧ G a = some (.dK kvs) ∧ kvs.map (·.1) = ks ∧ RvL xs (kvs.map (·.2))
  | .dT ks xs, v => ∃ a kvs, v = .ref a ∧ G a = some (.dT kvs) ∧ kvs.map (·.1) = ks ∧ RvL xs (kvs.map (·.2))
  | .obj c fs xs, v => ∃ a dx l, v = .ref a ∧ G a = some (.ins (W.cl c) dx l) ∧ l.map (·.1) = fs ∧ RvL xs (l.map (·.2))
  | .bx n, v => ∃ a, ρ n = some a ∧ v = .ref a
def RvL : List D → List V → Prop
  | [], vs => vs = []
  | d :: ds, vs => ∃ v ws, vs = v :: ws ∧ Rv d v ∧ RvL ds ws
end
variable (H : Hp)
mutual
/-- the value v is the tree d: owned down to the depth k (its own cells, at fp, off H), below that read off G -/
def Rt : D → Nat → V → List Addr → Prop
  | .tup xs, k, v, fp => match k with
    | 0 => fp = [] ∧ Rv W ρ G (.tup xs) v
    | k + 1 => ∃ a vs, v = .ref a ∧ G a = some (.tup vs) ∧ RtL xs k vs fp
  | .lst xs, k, v, fp => match k with
    | 0 => fp = [] ∧ Rv W ρ G (.lst xs) v
    | k + 1 => ∃ a vs f, v = .ref a ∧ fp = a :: f ∧ H a = some (.lst vs) ∧ RtL xs k vs f
  | .dK ks xs, k, v, fp => match k with
    | 0 => fp = [] ∧ Rv W ρ G (.dK ks xs) v
    | k + 1 => ∃ a kvs f, v = .ref a ∧ fp = a :: f ∧ H a = some (.dK kvs) ∧ kvs.map (·.1) = ks ∧ RtL xs k (kvs.map (·.2)) f
  | .dT ks xs, k, v, fp => match k with
    | 0 => fp = [] ∧ Rv W ρ G (.dT ks xs) v
    | k + 1 => ∃ a kvs f, v = .ref a ∧ fp = a :: f ∧ H a = some (.dT kvs) ∧ kvs.map (·.1) = ks ∧ RtL xs k (kvs.map (·.2)) f
  | .obj c fs xs, k, v, fp => match k with
    | 0 => fp = [] ∧ Rv W ρ G (.obj c fs xs) v
    | k + 1 => ∃ a dx l f, v = .ref a ∧ fp = a :: f ∧ H a = some (.ins (W.cl c) dx l) ∧ l.map (·.1) = fs ∧ RtL xs k (l.map (·.2)) f
  | .non, _, v, fp => fp = [] ∧ Rv W ρ G .non v
  | .bl b, _, v, fp => fp = [] ∧ Rv W ρ G (.bl b) v
  | .int i, _, v, fp => fp = [] ∧ Rv W ρ G (.int i) v
  | .str x, _, v, fp => fp = [] ∧ Rv W ρ G (.str x) v
  | .bx n, _, v, fp => fp = [] ∧ Rv W ρ G (.bx n) v
def RtL : List D → Nat → List V → List Addr → Prop
  | [], _, vs, fp => vs = [] ∧ fp = []
  | d :: ds, k, vs, fp => ∃ v ws f1 f2, vs = v :: ws ∧ fp = f1 ++ f2 ∧ Rt d k v f1 ∧ RtL ds k ws f2
end
end

section
variable {W : Wr} {ρ ρ' : Rho} {G G' H H' : Hp}
mutual
theorem Rv.mono (e : Ex G G') (r : RhoLe ρ ρ') : ∀ {d : D} {v : V}, Rv W ρ G d v → Rv W ρ' G' d v
  | .non, _, h => h
  | .bl _, _, h => h
  | .int _, _, h => h
  | .str _, _, h => h
  | .tup _, _, ⟨a, vs, h1, h2, h3⟩ => ⟨a, vs, h1, e _ _ h2, RvL.mono e r h3⟩
  | .lst _, _, ⟨a, vs, h1, h2, h3⟩ => ⟨a, vs, h1, ex_l e h2, RvL.mono e r h3⟩
  | .dK _ _, _, ⟨a, vs, h1, h2, h4, h3⟩ => ⟨a, vs, h1, e _ _ h2, h4, RvL.mono e r h3⟩
  | .dT _ _, _, ⟨a, vs, h1, h2, h4, h3⟩ => ⟨a, vs, h1, e _ _ h2, h4, RvL.mono e r h3⟩
  | .obj _ _ _, _, ⟨a, dx, l, h1, h2, h4, h3⟩ => ⟨a, dx, l, h1, e _ _ h2, h4, RvL.mono e r h3⟩
  | .bx n, _, ⟨a, h1, h2⟩ => ⟨a, r n a h1, h2⟩
theorem RvL.mono (e : Ex G G') (r : RhoLe ρ ρ') : ∀ {ds : List D} {vs : List V}, RvL W ρ G ds vs → RvL W ρ' G' ds vs
  | [], _, h => h
  | _ :: _, _, ⟨v, ws, h1, h2, h3⟩ => ⟨v, ws, h1, Rv.mono e r h2, RvL.mono e r h3⟩
end
mutual
theorem Rt.mono (e : Ex G G') (r : RhoLe ρ ρ') : ∀ {d : D} {k : Nat} {v : V} {fp : List Addr}, (∀ a ∈ fp, ∀ o, H a = some o → H' a = some o) → Rt W ρ G H d k v fp → Rt W ρ' G' H' d k v fp
  | .non, _, _, _, _, ⟨h1, h⟩ => ⟨h1, h⟩
  | .bl _, _, _, _, _, ⟨h1, h⟩ => ⟨h1, h⟩
  | .int _, _, _, _, _, ⟨h1, h⟩ => ⟨h1, h⟩
  | .str _, _, _, _, _, ⟨h1, h⟩ => ⟨h1, h⟩
  | .bx _, _, _, _, _, ⟨h1, h⟩ => ⟨h1, Rv.mono e r h⟩
  | .tup _, 0, _, _, _, ⟨h1, h⟩ => ⟨h1, Rv.mono e r h⟩
  | .tup _, k + 1, _, _, f, ⟨a, vs, h1, h2, h3⟩ => ⟨a, vs, h1, e _ _ h2, RtL.mono e r f h3⟩
  | .lst _, 0, _, _, _, ⟨h1, h⟩ => ⟨h1, Rv.mono e r h⟩
  | .lst _, k + 1, _, _, f, ⟨a, vs, g, h1, h2, h3, h4⟩ => ⟨a, vs, g, h1, h2, f a (by rw [h2]; exact List.mem_cons_self) _ h3, RtL.mono e r (fun b hb => f b (by rw [h2]; exact List.mem_cons_of_mem _ hb)) h4⟩
  | .dK _ _, 0, _, _, _, ⟨h1, h⟩ => ⟨h1, Rv.mono e r h⟩
  | .dK _ _, k + 1, _, _, f, ⟨a, vs, g, h1, h2, h3, h5, h4⟩ => ⟨a, vs, g, h1, h2, f a (by rw [h2]; exact List.mem_cons_self) _ h3, h5, RtL.mono e r (fun b hb => f b (by rw [h2]; exact List.mem_cons_of_mem _ hb)) h4⟩
  | .dT _ _, 0, _, _, _, ⟨h1, h⟩ => ⟨h1, Rv.mono e r h⟩
  | .dT _ _, k + 1, _, _, f, ⟨a, vs, g, h1, h2, h3, h5, h4⟩ => ⟨a, vs, g, h1, h2, f a (by rw [h2]; exact List.mem_cons_self) _ h3, h5, RtL.mono e r (fun b hb => f b (by rw [h2]; exact List.mem_cons_of_mem _ hb)) h4⟩
  | .obj _ _ _, 0, _, _, _, ⟨h1, h⟩ => ⟨h1, Rv.mono e r h⟩
  | .obj _ _ _, k + 1, _, _, f, ⟨a, dx, l, g, h1, h2, h3, h5, h4⟩ => ⟨a, dx, l, g, h1, h2, f a (by rw [h2]; exact List.mem_cons_self) _ h3, h5, RtL.mono e r (fun b hb => f b (by rw [h2]; exact List.mem_cons_of_mem _ hb)) h4⟩
theorem RtL.mono (e : Ex G G') (r : RhoLe ρ ρ') : ∀ {ds : List D} {k : Nat} {vs : List V} {fp : List Addr}, (∀ a ∈ fp, ∀ o, H a = some o → H' a = some o) → RtL W ρ G H ds k vs fp → RtL W ρ' G' H' ds k vs fp
  | [], _, _, _, _, h => h
  | _ :: _, _, _, _, f, ⟨v, ws, f1, f2, h1, h2, h3, h4⟩ => ⟨v, ws, f1, f2, h1, h2, Rt.mono e r (fun a ha => f a (by rw [h2]; exact List.mem_append_left _ ha)) h3, RtL.mono e r (fun a ha => f a (by rw [h2]; exact List.mem_append_right _ ha)) h4⟩
end
mutual
/-- a tree whose cells G knows as H does is read off G -/
theorem Rt.freeze (e : Ex G G') (r : RhoLe ρ ρ') : ∀ {d : D} {k : Nat} {v : V} {fp : List Addr}, (∀ a ∈ fp, ∀ o, H a = some o → G' a = some o) → Rt W ρ G H d k v fp → Rv W ρ' G' d v
  | .non, _, _, _, _, ⟨_, h⟩ => h
  | .bl _, _, _, _, _, ⟨_, h⟩ => h
  | .int _, _, _, _, _, ⟨_, h⟩ => h
  | .str _, _, _, _, _, ⟨_, h⟩ => h
  | .bx _, _, _, _, _, ⟨_, h⟩ => Rv.mono e r h
  | .tup _, 0, _, _, _, ⟨_, h⟩ => Rv.mono e r h
  | .tup _, k + 1, _, _, f, ⟨a, vs, h1, h2, h3⟩ => ⟨a, vs, h1, e _ _ h2, RtL.freeze e r f h3⟩
  | .lst _, 0, _, _, _, ⟨_, h⟩ => Rv.mono e r h
  | .lst _, k + 1, _, _, f, ⟨a, vs, g, h1, h2, h3, h4⟩ => ⟨a, vs, h1, .inl (.inl (f a (by rw [h2]; exact List.mem_cons_self) _ h3)), RtL.freeze e r (fun b hb => f b (by rw [h2]; exact List.mem_cons_of_mem _ hb)) h4⟩
  | .dK _ _, 0, _, _, _, ⟨_, h⟩ => Rv.mono e r h
  | .dK _ _, k + 1, _, _, f, ⟨a, vs, g, h1, h2, h3, h5, h4⟩ => ⟨a, vs, h1, f a (by rw [h2]; exact List.mem_cons_self) _ h3, h5, RtL.freeze e r (fun b hb => f b (by rw [h2]; exact List.mem_cons_of_mem _ hb)) h4⟩
  | .dT _ _, 0, _, _, _, ⟨_, h⟩ => Rv.mono e r h
  | .dT _ _, k + 1, _, _, f, ⟨a, vs, g, h1, h2, h3, h5, h4⟩ => ⟨a, vs, h1, f a (by rw [h2]; exact List.mem_cons_self) _ h3, h5, RtL.freeze e r (fun b hb => f b (by rw [h2]; exact List.mem_cons_of_mem _ hb)) h4⟩
  | .obj _ _ _, 0, _, _, _, ⟨_, h⟩ => Rv.mono e r h
  | .obj _ _ _, k + 1, _, _, f, ⟨a, dx, l, g, h1, h2, h3, h5, h4⟩ => ⟨a, dx, l, h1, f a (by rw [h2]; exact List.mem_cons_self) _ h3, h5, RtL.freeze e r (fun b hb => f b (by rw [h2]; exact List.mem_cons_of_mem _ hb)) h4⟩
theorem RtL.freeze (e : Ex G G') (r : RhoLe ρ ρ') : ∀ {ds : List D} {k : Nat} {vs : List V} {fp : List Addr}, (∀ a ∈ fp, ∀ o, H a = some o → G' a = some o) → RtL W ρ G H ds k vs fp → RvL W ρ' G' ds vs
  | [], _, _, _, _, ⟨h, _⟩ => h
  | _ :: _, _, _, _, f, ⟨v, ws, f1, f2, h1, h2, h3, h4⟩ => ⟨v, ws, h1, Rt.freeze e r (fun a ha => f a (by rw [h2]; exact List.mem_append_left _ ha)) h3, RtL.freeze e r (fun a ha => f a (by rw [h2]; exact List.mem_append_right _ ha)) h4⟩
end
/-- a tree is read off the heap -/
theorem Rt.read (e : Ex G H) {d : D} {k : Nat} {v : V} {fp : List Addr} (h : Rt W ρ G H d k v fp) : Rv W ρ H d v := Rt.freeze e (fun _ _ z => z) (fun _ _ _ z => z) h
theorem RtL.read (e : Ex G H) {d : List D} {k : Nat} {v : List V} {fp : List Addr} (h : RtL W ρ G H d k v fp) : RvL W ρ H d v := RtL.freeze e (fun _ _ z => z) (fun _ _ _ z => z) h
theorem RvL.length : ∀ {ds : List D} {vs : List V}, RvL W ρ G ds vs → vs.length = ds.length
  | [], _, h => by rw [show _ = [] from h]; rfl
  | _ :: ds, _, ⟨v, ws, h1, h2, h3⟩ => by rw [h1, List.length_cons, List.length_cons, RvL.length h3]
theorem RvL.get : ∀ {ds : List D} {vs : List V} {i : Nat} {d : D}, RvL W ρ G ds vs → ds[i]? = some d → ∃ v, vs[i]? = some v ∧ Rv W ρ G d v
  | [], _, _, _, _, e => by simp at e
  | _ :: ds, _, 0, _, ⟨v, ws, h1, h2, h3⟩, e => by
    simp at e; subst e; subst h1
    exact ⟨v, rfl, h2⟩
  | _ :: ds, _, i + 1, _, ⟨v, ws, h1, h2, h3⟩, e => by
    subst h1
    obtain ⟨u, e1, e2⟩ := RvL.get (i := i) h3 (by simpa using e)
    exact ⟨u, by simpa using e1, e2⟩
theorem RvL.append : ∀ {ds es : List D} {vs us : List V}, RvL W ρ G ds vs → RvL W ρ G es us → RvL W ρ G (ds ++ es) (vs ++ us)
  | [], _, _, _, h, h' => by rw [show _ = [] from h]; exact h'
  | _ :: ds, _, _, _, ⟨v, ws, h1, h2, h3⟩, h' => by
    subst h1
    exact ⟨v, ws ++ _, rfl, h2, RvL.append h3 h'⟩
theorem RvL.take : ∀ {ds : List D} {vs : List V} (n : Nat), RvL W ρ G ds vs → RvL W ρ G (ds.take n) (vs.take n)
  | _, _, 0, _ => by rw [List.take_zero, List.take_zero]; rfl
  | [], _, n + 1, h => by rw [show _ = [] from h]; rfl
  | _ :: ds, _, n + 1, ⟨v, ws, h1, h2, h3⟩ => by
    subst h1
    exact ⟨v, ws.take n, rfl, h2, RvL.take n h3⟩
theorem RvL.drop : ∀ {ds : List D} {vs : List V} (n : Nat), RvL W ρ G ds vs → RvL W ρ G (ds.drop n) (vs.drop n)
  | _, _, 0, h => h
  | [], _, n + 1, h => by rw [show _ = [] from h]; rfl
  | _ :: ds, _, n + 1, ⟨v, ws, h1, h2, h3⟩ => by
    subst h1
    exact RvL.drop n h3
theorem RvL.reverse {ds : List D} {vs : List V} (h : RvL W ρ G ds vs) : RvL W ρ G ds.reverse vs.reverse := by
  induction ds generalizing vs with
  | nil => rw [show vs = [] from h]; rfl
  | cons d ds ih =>
    obtain ⟨v, ws, h1, h2, h3⟩ := h
    subst h1
    rw [List.reverse_cons, List.reverse_cons]
    exact RvL.append (ih h3) ⟨v, [], rfl, h2, rfl⟩
theorem RvL.all {P : D → V → Prop} : ∀ {ds : List D} {vs : List V}, RvL W ρ G ds vs → (∀ d ∈ ds, ∀ v, Rv W ρ G d v → Rv W ρ' G' d v) → RvL W ρ' G' ds vs
  | [], _, h, _ => h
  | _ :: ds, _, ⟨v, ws, h1, h2, h3⟩, f => ⟨v, ws, h1, f _ (List.mem_cons_self) v h2, RvL.all (P := P) h3 fun d hd => f d (List.mem_cons_of_mem _ hd)⟩
end

section
variable {W : Wr} {ρ : Rho} {G H : Hp} {x : Option (Nat × Addr × Nat)}
abbrev Wr.at_ (W : Wr) (x : Option (Nat × Addr × Nat)) : Wr := ⟨W.K, W.cl, W.xc, x⟩
mutual
theorem rv_xs : ∀ d : D, Rv (W.at_ x) ρ G d = Rv W ρ G d
  | .non => rfl
  | .bl _ => rfl
  | .int _ => rfl
  | .str _ => rfl
  | .tup xs => by
    funext v
    show (∃ a vs, v = .ref a ∧ G a = some (.tup vs) ∧ RvL (W.at_ x) ρ G xs vs) = _
    rw [rvL_xs xs]; rfl
  | .lst xs => by
    funext v
    show (∃ a vs, v = .ref a ∧ SqL W.K G a vs ∧ RvL (W.at_ x) ρ G xs vs) = _
    rw [rvL_xs xs]; rfl
  | .dK ks xs => by
    funext v
    show (∃ a kvs, v = .ref a ∧ G a = some (.dK kvs) ∧ kvs.map (·.1) = ks ∧ RvL (W.at_ x) ρ G xs (kvs.map (·.2))) = _
    rw [rvL_xs xs]; rfl
  | .dT ks xs => by
    funext v
    show (∃ a kvs, v = .ref a ∧ G a = some (.dT kvs) ∧ kvs.map (·.1) = ks ∧ RvL (W.at_ x) ρ G xs (kvs.map (·.2))) = _
    rw [rvL_xs xs]; rfl
  | .obj c fs xs => by
    funext v
    show (∃ a dx l, v = .ref a ∧ G a = some (.ins (W.cl c) dx l) ∧ l.map (·.1) = fs ∧ RvL (W.at_ x) ρ G xs (l.map (·.2))) = _
    rw [rvL_xs xs]; rfl
  | .bx _ => rfl
theorem rvL_xs : ∀ ds : List D, RvL (W.at_ x) ρ G ds = RvL W ρ G ds
  | [] => rfl
  | d :: ds => by
    funext vs
    show (∃ v ws, vs = v :: ws ∧ Rv (W.at_ x) ρ G d v ∧ RvL (W.at_ x) ρ G ds ws) = _
    rw [rv_xs d, rvL_xs ds]; rfl
end
mutual
theorem rt_xs : ∀ d : D, Rt (W.at_ x) ρ G H d = Rt W ρ G H d
  | .non => rfl
  | .bl _ => rfl
  | .int _ => rfl
  | .str _ => rfl
  | .bx _ => rfl
  | .tup xs => by
    funext k v fp
    cases k with
    | zero => show (fp = [] ∧ Rv (W.at_ x) ρ G (.tup xs) v) = _; rw [rv_xs]; rfl
    | succ k =>
      show (∃ a vs, v = .ref a ∧ G a = some (.tup vs) ∧ RtL (W.at_ x) ρ G H xs k vs fp) = _
      rw [rtL_xs xs]; rfl
  | .lst xs => by
    funext k v fp
    cases k with
    | zero => show (fp = [] ∧ Rv (W.at_ x) ρ G (.lst xs) v) = _; rw [rv_xs]; rfl
    | succ k =>
      show (∃ a vs f, v = .ref a ∧ fp = a :: f ∧ H a = some (.lst vs) ∧ RtL (W.at_ x) ρ G H xs k vs f) = _
      rw [rtL_xs xs]; rfl
  | .dK ks xs => by
    funext k v fp
    cases k with
    | zero => show (fp = [] ∧ Rv (W.at_ x) ρ G (.dK ks xs) v) = _; rw [rv_xs]; rfl
    | succ k =>
      show (∃ a kvs f, v = .ref a ∧ fp = a :: f ∧ H a = some (.dK kvs) ∧ kvs.map (·.1) = ks ∧ RtL (W.at_ x) ρ G H xs k (kvs.map (·.2)) f) = _
      rw [rtL_xs xs]; rfl
  | .dT ks xs => by
    funext k v fp
    cases k with
    | zero => show (fp = [] ∧ Rv (W.at_ x) ρ G (.dT ks xs) v) = _; rw [rv_xs]; rfl
    | succ k =>
      show (∃ a kvs f, v = .ref a ∧ fp = a :: f ∧ H a = some (.dT kvs) ∧ kvs.map (·.1) = ks ∧ RtL (W.at_ x) ρ G H xs k (kvs.map (·.2)) f) = _
      rw [rtL_xs xs]; rfl
  | .obj c fs xs => by
    funext k v fp
    cases k with
    | zero => show (fp = [] ∧ Rv (W.at_ x) ρ G (.obj c fs xs) v) = _; rw [rv_xs]; rfl
    | succ k =>
      show (∃ a dx l f, v = .ref a ∧ fp = a :: f ∧ H a = some (.ins (W.cl c) dx l) ∧ l.map (·.1) = fs ∧ RtL (W.at_ x) ρ G H xs k (l.map (·.2)) f) = _
      rw [rtL_xs xs]; rfl
theorem rtL_xs : ∀ ds : List D, RtL (W.at_ x) ρ G H ds = RtL W ρ G H ds
  | [] => rfl
  | d :: ds => by
    funext k vs fp
    show (∃ v ws f1 f2, vs = v :: ws ∧ fp = f1 ++ f2 ∧ Rt (W.at_ x) ρ G H d k v f1 ∧ RtL (W.at_ x) ρ G H ds k ws f2) = _
    rw [rt_xs d, rtL_xs ds]; rfl
end
end

mutual
def D.imm : D → Bool
  | .tup xs => immL xs
  | .lst _ | .dK _ _ | .dT _ _ | .obj _ _ _ => false
  | _ => true
def immL : List D → Bool
  | [] => true
  | d :: ds => d.imm && immL ds
end
mutual
def D.noBx : D → Bool
  | .tup xs => noBxL xs
  | .lst xs => noBxL xs
  | .dK _ xs => noBxL xs
  | .dT _ xs => noBxL xs
  | .obj _ _ xs => noBxL xs
  | .bx _ => false
  | _ => true
def noBxL : List D → Bool
  | [] => true
  | d :: ds => d.noBx && noBxL ds
end
section
variable {W : Wr} {ρ ρ' : Rho} {G G' H H' : Hp}
/-- tuples are known -/
def TupIn (G H : Hp) : Prop := ∀ a xs, H a = some (.tup xs) → G a = some (.tup xs)
mutual
theorem Rv.imm (t : TupIn G H) : ∀ {d : D} {v : V}, d.imm = true → Rv W ρ H d v → Rv W ρ G d v
  | .non, _, _, h => h
  | .bl _, _, _, h => h
  | .int _, _, _, h => h
  | .str _, _, _, h => h
  | .tup _, _, i, ⟨a, vs, h1, h2, h3⟩ => ⟨a, vs, h1, t _ _ h2, RvL.imm t i h3⟩
  | .lst _, _, i, _ => by cases i
  | .dK _ _, _, i, _ => by cases i
  | .dT _ _, _, i, _ => by cases i
  | .obj _ _ _, _, i, _ => by cases i
  | .bx _, _, _, h => h
theorem RvL.imm (t : TupIn G H) : ∀ {ds : List D} {vs : List V}, immL ds = true → RvL W ρ H ds vs → RvL W ρ G ds vs
  | [], _, _, h => h
  | _ :: _, _, i, ⟨v, ws, h1, h2, h3⟩ => by
    obtain ⟨i1, i2⟩ := Bool.and_eq_true_iff.mp i
    exact ⟨v, ws, h1, Rv.imm t i1 h2, RvL.imm t i2 h3⟩
end
mutual
theorem Rv.noBx : ∀ {d : D} {v : V}, d.noBx = true → Rv W ρ G d v → Rv W ρ' G d v
  | .non, _, _, h => h
  | .bl _, _, _, h => h
  | .int _, _, _, h => h
  | .str _, _, _, h => h
  | .tup _, _, i, ⟨a, vs, h1, h2, h3⟩ => ⟨a, vs, h1, h2, RvL.noBx i h3⟩
  | .lst _, _, i, ⟨a, vs, h1, h2, h3⟩ => ⟨a, vs, h1, h2, RvL.noBx i h3⟩
  | .dK _ _, _, i, ⟨a, vs, h1, h2, h4, h3⟩ => ⟨a, vs, h1, h2, h4, RvL.noBx i h3⟩
  | .dT _ _, _, i, ⟨a, vs, h1, h2, h4, h3⟩ => ⟨a, vs, h1, h2, h4, RvL.noBx i h3⟩
  | .obj _ _ _, _, i, ⟨a, dx, l, h1, h2, h4, h3⟩ => ⟨a, dx, l, h1, h2, h4, RvL.noBx i h3⟩
  | .bx _, _, i, _ => by cases i
theorem RvL.noBx : ∀ {ds : List D} {vs : List V}, noBxL ds = true → RvL W ρ G ds vs → RvL W ρ' G ds vs
  | [], _, _, h => h
  | _ :: _, _, i, ⟨v, ws, h1, h2, h3⟩ => by
    obtain ⟨i1, i2⟩ := Bool.and_eq_true_iff.mp i
    exact ⟨v, ws, h1, Rv.noBx i1 h2, RvL.noBx i2 h3⟩
end
end
end Z

namespace Z
open PySem L2

/-- how a value is held: vl l: read off the frozen part (l: lent); fr k l: new, owned down to the depth k; tn n p: within the box n, by the path p -/
inductive Kd where
  | vl (l : Bool) | fr (k : Nat) (l : Bool) | tn (n : Nat) (p : List Nat)
abbrev Vd := Kd × D
structure Bx where
  dp : Nat
  ln : Bool
  lk : Bool
  d : D
abbrev Sto := List (Option Bx)
abbrev EnvD := List (Option (Bool × D))

/-- what comes of an evaluation -/
inductive R (α : Type) where
  | ok (a : α) | exc (c : Nat) (S : Sto) | stuck
@[inline] def R.bind {α β : Type} (r : R α) (f : α → R β) : R β := match r with
  | .ok a => f a
  | .exc c S => .exc c S
  | .stuck => .stuck
def ofO {α : Type} : Option α → R α
  | some a => .ok a
  | none => .stuck
def rO {α β : Type} (r : Option α) (f : α → R β) : R β := match r with
  | some a => f a
  | none => .stuck
/-- nothing may be raised within -/
def R.nox {α : Type} (r : R α) : R α := match r with
  | .exc _ _ => .stuck
  | r => r
def noxIf {α : Type} (b : Bool) (r : R α) : R α := if b then r.nox else r
theorem R.bind_ok {α β : Type} (a : α) (f : α → R β) : (R.ok a).bind f = f a := rfl
theorem ofO_some {α : Type} (a : α) : ofO (some a) = R.ok a := rfl

inductive Op where
  | add | sub | mul | fdiv | mod | pow | shl | shr | band | bor | neg | notB
  | eq | ne | lt | le | gt | ge | isN | notN | inn | nin
  | idx | sl (lo hi : Bool)
  | len | abs | int1 | str1 | min2 | max2 | minL | maxL | sumL | anyL | list1 | tuple1 | sorted1 | dict1
  | isI (t : Nat)
  | tupD (dp : Nat) (ln : Bool) | lstD (dp : Nat) (ln : Bool) | emK | emT
  | fld (f : Str)
  | join | split | find2 | find1 | index | count | get1 | get2
inductive Mo where
  | append | extend | pop0 | pop1 | insert | remove | reverse | clear

mutual
inductive E where
  | v (i : Nat) (mv : Bool)
  | k (c : D)
  | g (x : Str) (c : D)
  | op (o : Op) (es : List E)
  | ch (o1 o2 : Op) (a b c : E)
  | and' (a b : E) | or' (a b : E)
  | call (p : Bool) (f : Nat) (es : List E)
  | meth (p : Bool) (m : Str) (o : E) (es : List E)
  | mk (b : Bool) (c : Nat) (dp : Nat) (ln : Bool) (es : List E)
  | mut (mo : Mo) (o : E) (es : List E)
  | lc (dp : Nat) (ln : Bool) (tg : List Nat) (tup : Bool) (it : It) (ifs : List Cd) (elt : E)
  | isX (o : Option Nat) (i : Nat)
  | callX (f i : Nat)
inductive It where
  | seq (e : E) | rng (es : List E) | enu (e : E) | rev (e : E)
inductive Cd where
  | b (e : E) | t (e : E) | and' (a b : Cd) | or' (a b : Cd) | not' (a : Cd)
end
inductive St where
  | asg (i : Nat) (b : Option (Nat × Bool)) (e : E)
  | unp (is : List Nat) (e : E)
  | sub (o i e : E)
  | fld (o : E) (f : Str) (e : E)
  | ex (e : E)
  | ite (c : Cd) (a b : List St)
  | for' (tg : List Nat) (tup : Bool) (it : It) (b : List St)
  | whl (c : Cd) (b : List St)
  | ret (e : E) | retN
  | raise (c : Nat)
  | tr0 (b : List St)
  | tr (b : List St) (c : Nat) (o : Option Nat) (s : List St)
  | pass | cont
  | fz (i : Nat)

def D.kids : D → List D
  | .tup xs | .lst xs | .dK _ xs | .dT _ xs | .obj _ _ xs => xs
  | _ => []
def D.withKids : D → List D → D
  | .tup _, ys => .tup ys
  | .lst _, ys => .lst ys
  | .dK ks _, ys => .dK ks ys
  | .dT ks _, ys => .dT ks ys
  | .obj c fs _, ys => .obj c fs ys
  | d, _ => d
def pathGet : D → List Nat → Option D
  | d, [] => some d
  | d, i :: p => match d.kids[i]? with
    | some x => pathGet x p
    | none => none
def pathSet : D → List Nat → D → D
  | _, [], e => e
  | d, i :: p, e => match d.kids[i]? with
    | some x => d.withKids (d.kids.set i (pathSet x p e))
    | none => d

def norm : Vd → Vd
  | (k, d) => if d.imm then (.vl false, d) else (k, d)
/-- the kind of the i-th child -/
def kidK (S : Sto) : Kd → Nat → Option Kd
  | .vl l, _ => some (.vl l)
  | .fr k l, _ => some (match k with
    | k' + 2 => .fr (k' + 1) l
    | _ => .vl l)
  | .tn n p, i => match S[n]? with
    | some (some b) => some (if p.length + 1 < b.dp then .tn n (p ++ [i]) else .vl b.ln)
    | _ => none
/-- the children of a thing of this kind, kept in a new thing: whether they are lent -/
def settle (S : Sto) (k : Kd) (xs : List D) : Option Bool :=
  if immL xs then some false else match k with
  | .vl l => some l
  | .fr _ l => some l
  | .tn n p => match S[n]? with
    | some (some b) => if p.length + 1 < b.dp then none else some b.ln
    | _ => none
/-- may it be kept at this depth, where lent things may be or not -/
def fits (dp : Nat) (ln : Bool) : Vd → Bool
  | (k, d) => d.imm || match k with
    | .vl l => dp == 0 && (!l || ln)
    | .fr j l => decide (dp ≤ j) && (!l || ln)
    | .tn _ _ => false
/-- as a value: lent or not -/
def asVal : Vd → Option Bool
  | (k, d) => if d.imm then some false else match k with
    | .vl l => some l
    | .fr _ l => some l
    | .tn _ _ => none
/-- a box read -/
def der (S : Sto) : Vd → Option Vd
  | (_, .bx n) => match S[n]? with
    | some (some b) => some (.tn n [], b.d)
    | _ => none
  | kd => some kd
def derL (S : Sto) : List Vd → Option (List Vd)
  | [] => some []
  | a :: as => (der S a).bind fun b => (derL S as).map fun bs => b :: bs
mutual
/-- boxes replaced by what they hold -/
def snapD (f : Nat → D) : D → D
  | .tup xs => .tup (snapL f xs)
  | .lst xs => .lst (snapL f xs)
  | .dK ks xs => .dK ks (snapL f xs)
  | .dT ks xs => .dT ks (snapL f xs)
  | .obj c fs xs => .obj c fs (snapL f xs)
  | .bx n => f n
  | d => d
def snapL (f : Nat → D) : List D → List D
  | [] => []
  | d :: ds => snapD f d :: snapL f ds
end
def boxAt (S : Sto) (n : Nat) : D := match S[n]? with
  | some (some b) => b.d
  | _ => .bx n
def snapF (S : Sto) : Nat → D → D
  | 0, d => d
  | n + 1, d => snapD (fun i => snapF S n (boxAt S i)) d

def truthD : D → Option Bool
  | .non => some false
  | .bl b => some b
  | .int i => some (i != 0)
  | .str x => if x.length ≤ sizeLine then some ((x.length : Int) != 0) else none
  | .tup xs => some (!xs.isEmpty)
  | .lst xs => some (!xs.isEmpty)
  | .dK ks _ => some (!ks.isEmpty)
  | _ => none
mutual
def D.toP : D → Option PyData
  | .non => some .none
  | .bl b => some (.bool b)
  | .int i => some (.int i)
  | .str x => some (.str x)
  | .tup xs => (toPL xs).map .tuple
  | .lst xs => (toPL xs).map .list
  | _ => none
def toPL : List D → Option (List PyData)
  | [] => some []
  | d :: ds => d.toP.bind fun p => (toPL ds).map fun ps => p :: ps
end
def eqD : D → D → Option Bool
  | .int i, .int j => some (decide (i = j))
  | .str x, .str y => some (decide (x = y))
  | .bl x, .bl y => some (decide (x = y))
  | a, b => a.toP.bind fun p => b.toP.bind fun q => if SeqAt.shaped p && SeqAt.shaped q then some (PyData.eqv p q) else none
def D.flat : D → Option V
  | .non => some .non
  | .bl b => some (.bl b)
  | .int i => some (.int i)
  | .str x => some (.str x)
  | _ => none
def flatL : List D → Option (List V)
  | [] => some []
  | d :: ds => d.flat.bind fun v => (flatL ds).map fun vs => v :: vs
def D.key : D → Option Key
  | .int i => some (.inl i)
  | .str x => some (.inr x)
  | _ => none
def keyL : List D → Option (List Key)
  | [] => some []
  | d :: ds => d.key.bind fun v => (keyL ds).map fun vs => v :: vs
def posOf {κ : Type} [DecidableEq κ] (ks : List κ) (k : κ) : Option Nat := ks.findIdx? (fun q => decide (q = k))
/-- where a key stands in a dict -/
def dPos : D → D → Option (Option Nat)
  | .dK ks _, y => y.key.map fun k => posOf ks k
  | .dT ks _, .tup ys => (keyL ys).map fun k => posOf ks k
  | _, _ => none
def dIn : D → D → Option Bool
  | .lst xs, y => y.flat.bind fun v => (flatL xs).map fun vs => inV v vs
  | .tup xs, y => y.flat.bind fun v => (flatL xs).map fun vs => inV v vs
  | .str z, .str x => some (!(Builtin.Str.occurrences z x 0 z.length 1).isEmpty)
  | d, y => (dPos d y).map (·.isSome)
def intsOf : List D → Option (List Int)
  | [] => some []
  | .int i :: ds => (intsOf ds).map fun r => i :: r
  | _ => none
def strsOf : List D → Option (List Str)
  | [] => some []
  | .str i :: ds => (strsOf ds).map fun r => i :: r
  | _ => none
def boolsOf : List D → Option (List Bool)
  | [] => some []
  | .bl i :: ds => (boolsOf ds).map fun r => i :: r
  | _ => none
def isT (n : Nat) (d : D) : Option Bool := match d with
  | .non => some false
  | .bl _ => some (decide (n = 0 ∨ n = 1))
  | .int _ => some (decide (n = 0))
  | .str _ => some (decide (n = 2))
  | .lst _ => some (decide (n = 3))
  | .tup _ => some (decide (4 ≤ n))
  | .dK _ _ => some false
  | .dT _ _ => some false
  | _ => none
def vT (d : D) : Option Vd := some (.vl false, d)
def listK (S : Sto) (k : Kd) (xs ys : List D) : Option Vd := (settle S k xs).map fun l => (.fr 1 l, .lst ys)
def tupK (S : Sto) (k : Kd) (xs ys : List D) : Option Vd := (settle S k xs).map fun l => norm (.vl l, .tup ys)
def kid (S : Sto) (k : Kd) (xs : List D) (i : Int) : Option Vd := (ixN xs.length i).bind fun j => (xs[j]?).bind fun d => (kidK S k j).map fun k' => norm (k', d)
def ixO : Bool → List Vd → Option (Option Int × List Vd)
  | false, as => some (none, as)
  | true, (_, .int i) :: as => some (some i, as)
  | true, _ => none
def cutD (xs : List D) (lo hi : Option Int) : List D := (xs.drop (HT.sIx xs.length 0 lo)).take (HT.sIx xs.length xs.length hi - HT.sIx xs.length 0 lo)
def slD (S : Sto) (x : Vd) (lo hi : Option Int) : Option Vd := match x with
  | (k, .lst xs) => listK S k xs (cutD xs lo hi)
  | (k, .tup xs) => if HT.sIx xs.length 0 lo = 0 ∧ HT.sIx xs.length xs.length hi = xs.length then none else tupK S k xs (cutD xs lo hi)
  | (_, .str z) => if z.length ≤ sizeLine then vT (.str (cutS z lo hi)) else none
  | _ => none
def one (f : Vd → Option Vd) : List Vd → Option Vd
  | [a] => f a
  | _ => none
def two (f : Vd → Vd → Option Vd) : List Vd → Option Vd
  | [a, b] => f a b
  | _ => none
def opI (f : Int → Int → Option D) : Vd → Vd → Option Vd
  | (_, .int i), (_, .int j) => (f i j).map fun d => (.vl false, d)
  | _, _ => none
def opAdd (S : Sto) : Vd → Vd → Option Vd
  | (_, .int i), (_, .int j) => vT (.int (i + j))
  | (_, .str x), (_, .str y) => if x.length + y.length ≤ sizeLine then vT (.str (x ++ y)) else none
  | (k1, .lst xs), (k2, .lst ys) => if xs.length + ys.length ≤ sizeLine then (settle S k1 xs).bind fun l1 => (settle S k2 ys).map fun l2 => (.fr 1 (l1 || l2), .lst (xs ++ ys)) else none
  | (k1, .tup xs), (k2, .tup ys) => if xs.length + ys.length ≤ sizeLine then (settle S k1 xs).bind fun l1 => (settle S k2 ys).map fun l2 => norm (.vl (l1 || l2), .tup (xs ++ ys)) else none
  | _, _ => none
def opMul (S : Sto) : Vd → Vd → Option Vd
  | (_, .int i), (_, .int j) => if i.natAbs.log2 + j.natAbs.log2 < 1000000 then vT (.int (i * j)) else none
  | (_, .str x), (_, .int j) => if 0 ≤ j ∧ j ≤ 1000 ∧ x.length ≤ 1000 then vT (.str (mkS (List.replicate j.toNat x.cps.toList).flatten)) else none
  | (.fr (k + 1) l, .lst xs), (_, .int j) => if -(2 ^ 63) ≤ j ∧ j < 2 ^ 63 ∧ xs.length * j.toNat ≤ sizeLine then listK S (.fr (k + 1) l) xs (List.replicate j.toNat xs).flatten else none
  | _, _ => none
def opIdx (S : Sto) : Vd → Vd → Option Vd
  | (k, .lst xs), (_, .int i) => kid S k xs i
  | (k, .tup xs), (_, .int i) => kid S k xs i
  | (_, .str z), (_, .int i) => if z.length ≤ sizeLine then (atI z.cps.toList i).bind fun c => vT (.str ⟨#[c]⟩) else none
  | (k, d), (_, y) => (dPos d y).bind fun o => o.bind fun j => kid S k d.kids j
def opSl (S : Sto) (lo hi : Bool) : List Vd → Option Vd
  | x :: r => (ixO lo r).bind fun a => (ixO hi a.2).bind fun b => match b.2 with
    | [] => slD S x a.1 b.1
    | _ => none
  | [] => none
def opLen : D → Option D
  | .str x => if x.length ≤ sizeLine then some (.int x.length) else none
  | .lst xs => some (.int xs.length)
  | .tup xs => some (.int xs.length)
  | .dK ks _ => some (.int ks.length)
  | _ => none
def opInt1 : D → Option D
  | .int i => some (.int i)
  | .bl b => some (.int (if b then 1 else 0))
  | .str x => if x.length ≤ 640 then (PySem.intText? x).map fun n => .int n else none
  | _ => none
def opStr1 : D → Option D
  | .int i => if i.natAbs.log2 < 1920 then some (.str (toString i)) else none
  | _ => none
def opAbs : D → Option D
  | .int i => some (.int (if i < 0 then -i else i))
  | _ => none
def opNeg : D → Option D
  | .int i => some (.int (-i))
  | _ => none
def opIsN : D → Bool
  | .non => true
  | _ => false
def opMinL : D → Option D
  | .lst xs => (intsOf xs).bind fun is => match is with
    | [] => none
    | i :: r => some (.int (r.foldl min i))
  | _ => none
def opMaxL : D → Option D
  | .lst xs => (intsOf xs).bind fun is => match is with
    | [] => none
    | i :: r => some (.int (r.foldl max i))
  | _ => none
def opSumL : D → Option D
  | .lst xs => (intsOf xs).map fun is => .int is.sum
  | _ => none
def opAnyL : D → Option D
  | .lst xs => (boolsOf xs).map fun bs => .bl (bs.any id)
  | _ => none
def keyD : Key → D
  | .inl i => .int i
  | .inr x => .str x
def opList1 (S : Sto) : Vd → Option Vd
  | (_, .dK ks _) => some (.fr 1 false, .lst (ks.map keyD))
  | (k, .lst xs) => listK S k xs xs
  | (k, .tup xs) => listK S k xs xs
  | _ => none
def opTuple1 (S : Sto) : Vd → Option Vd
  | (k, .lst xs) => tupK S k xs xs
  | (k, .tup xs) => tupK S k xs xs
  | _ => none
def opFld (S : Sto) (f : Str) : Vd → Option Vd
  | (k, .obj _ fs xs) => (posOf fs f).bind fun j => kid S k xs j
  | _ => none
def opJoin : D → D → Option D
  | .str a, .lst xs => (strsOf xs).bind fun ys => if (ys.map (·.length)).sum + ys.length * a.length ≤ 16777216 then some (.str (Txt.join a ys)) else none
  | _, _ => none
def opSplit : D → D → Option D
  | .str a, .str b => if (b.length == 0) = false ∧ a.length + 2 ≤ sizeLine then some (.lst ((Txt.split a b).map D.str)) else none
  | _, _ => none
def opFind1 : D → D → Option D
  | .str a, .str b => some (.int (Txt.find a b))
  | _, _ => none
def opFind2 : List Vd → Option Vd
  | [(_, .str a), (_, .str b), (_, .int i)] => some (.vl false, .int (Txt.find3 a b i))
  | _ => none
def opIndex : D → D → Option D
  | .lst xs, y => y.flat.bind fun v => (flatL xs).bind fun vs => (vs.findIdx? (fun z => eqV z v)).map fun j => .int (j : Nat)
  | _, _ => none
def opCount : D → D → Option D
  | .lst xs, y => y.flat.bind fun v => (flatL xs).map fun vs => .int ((vs.countP fun z => eqV z v : Nat) : Int)
  | _, _ => none
def opGet1 (S : Sto) : Vd → Vd → Option Vd
  | (k, d), (_, y) => (dPos d y).bind fun o => match o with
    | some j => kid S k d.kids j
    | none => some (.vl false, .non)
def opGet2 (S : Sto) : List Vd → Option Vd
  | [(k, d), (_, y), a] => (dPos d y).bind fun o => match o with
    | some j => kid S k d.kids j
    | none => some a
  | _ => none
/-- texts by code points -/
def leS (x y : Str) : Bool := !PySem.Spec.ltCps y.cps.toList x.cps.toList
def sortI (ns : List Int) : D := .lst ((ns.mergeSort (fun a b => decide (a ≤ b))).map D.int)
def sortT (ns : List Str) : D := .lst ((ns.mergeSort leS).map D.str)
def sortAny (xs : List D) : Option D := match xs with
  | .str _ :: _ => (strsOf xs).bind fun ns => if ns.length < 64 then some (sortT ns) else none
  | _ => (intsOf xs).map sortI
def opSorted : D → Option D
  | .lst xs => sortAny xs
  | .dK ks _ => sortAny (ks.map keyD)
  | _ => none
def opDict1 (S : Sto) : Vd → Option Vd
  | (k, .dK ks xs) => (settle S k xs).map fun l => (.fr 1 l, .dK ks xs)
  | _ => none
/-- of values alone, to a value -/
def pure1 (f : D → Option D) : List Vd → Option Vd := one fun a => (f a.2).map fun d => (.vl false, d)
def pure2 (f : D → D → Option D) : List Vd → Option Vd := two fun a b => (f a.2 b.2).map fun d => (.vl false, d)
def opv (o : Op) (S : Sto) : List Vd → Option Vd := match o with
  | .add => two (opAdd S)
  | .sub => two (opI fun i j => some (.int (i - j)))
  | .mul => two (opMul S)
  | .fdiv => two (opI fun i j => if 0 < j ∧ j.natAbs.log2 < 9000 then some (.int (i / j)) else none)
  | .mod => two (opI fun i j => if 0 < j then some (.int (i % j)) else none)
  | .pow => two (opI fun i j => if 0 ≤ j ∧ j ≤ 1000000 ∧ i.natAbs < 2 ^ 64 then some (.int (i ^ j.toNat)) else none)
  | .shl => two (opI fun i j => if 0 ≤ j ∧ j ≤ 1000000 ∧ i.natAbs < 2 ^ 64 then some (.int (i * 2 ^ j.toNat)) else none)
  | .shr => two (opI fun i j => if 0 ≤ j then some (.int (i / 2 ^ j.toNat)) else none)
  | .band => two (opI fun i j => some (.int (Builtin.bitAnd i j)))
  | .bor => two (opI fun i j => some (.int (Builtin.bitOr i j)))
  | .neg => pure1 opNeg
  | .notB => pure1 fun d => (truthD d).map fun b => .bl (!b)
  | .eq => pure2 fun a b => (eqD a b).map fun r => .bl r
  | .ne => pure2 fun a b => (eqD a b).map fun r => .bl (!r)
  | .lt => two (opI fun i j => some (.bl (decide (i < j))))
  | .le => two (opI fun i j => some (.bl (decide (i ≤ j))))
  | .gt => two (opI fun i j => some (.bl (decide (j < i))))
  | .ge => two (opI fun i j => some (.bl (decide (j ≤ i))))
  | .isN => pure1 fun d => some (.bl (opIsN d))
  | .notN => pure1 fun d => some (.bl (!opIsN d))
  | .inn => pure2 fun x d => (dIn d x).map fun b => .bl b
  | .nin => pure2 fun x d => (dIn d x).map fun b => .bl (!b)
  | .idx => two (opIdx S)
  | .sl lo hi => opSl S lo hi
  | .len => pure1 opLen
  | .abs => pure1 opAbs
  | .int1 => pure1 opInt1
  | .str1 => pure1 opStr1
  | .min2 => two (opI fun i j => some (.int (if j < i then j else i)))
  | .max2 => two (opI fun i j => some (.int (if j > i then j else i)))
  | .minL => pure1 opMinL
  | .maxL => pure1 opMaxL
  | .sumL => pure1 opSumL
  | .anyL => pure1 opAnyL
  | .list1 => one (opList1 S)
  | .tuple1 => one (opTuple1 S)
  | .dict1 => one (opDict1 S)
  | .isI t => pure1 fun d => (isT t d).map fun b => .bl b
  | .tupD dp ln => fun as => if as.all (fits dp ln) ∧ as.length ≤ sizeLine then some (norm (.fr (dp + 1) ln, .tup (as.map (·.2)))) else none
  | .lstD dp ln => fun as => if as.all (fits dp ln) ∧ as.length ≤ sizeLine then some (.fr (dp + 1) ln, .lst (as.map (·.2))) else none
  | .emK => fun as => match as with
    | [] => some (.fr 9 false, .dK [] [])
    | _ => none
  | .emT => fun as => match as with
    | [] => some (.fr 9 false, .dT [] [])
    | _ => none
  | .fld f => one (opFld S f)
  | .join => pure2 opJoin
  | .split => two fun a b => (opSplit a.2 b.2).map fun d => (.fr 1 false, d)
  | .find1 => pure2 opFind1
  | .find2 => opFind2
  | .index => pure2 opIndex
  | .count => pure2 opCount
  | .get1 => two (opGet1 S)
  | .get2 => opGet2 S
  | .sorted1 => one fun a => (opSorted a.2).map fun d => (.fr 1 false, d)

structure ClsI where
  name : Str
  meths : List (Str × Nat)
/-- what calls go to -/
structure Ga where
  call : Nat → List (Bool × D) → Sto → R (Kd × D × Sto)
  cls : List ClsI
  xn : Option (Nat × Nat)
  callx : Nat → Nat → R (Kd × D × Sto)
  nx : Nat
/-- is an error of class c one of class h (none: ValueError)? the class 0 is above all -/
def subX (c : Nat) (h : Option Nat) : Bool := match h with
  | none => true
  | some h => h == 0 || h == c
def methOf (cs : List ClsI) (c : Nat) (m : Str) : Option Nat := (cs[c]?).bind fun i => i.meths.lookup m

abbrev Res := Kd × D × Sto × Bool
/-- arguments of a call in the same region; of a call in a region of its own -/
def argI : Vd → Option (Bool × D) := fun a => (asVal a).map fun l => (l, a.2)
def argsI : List Vd → Option (List (Bool × D))
  | [] => some []
  | a :: as => (argI a).bind fun x => (argsI as).map fun xs => x :: xs
def argP (S : Sto) : Vd → Bool × D
  | (k, d) => (if (snapF S 4 d).imm then false else match k with
    | .vl l => if d.noBx then l else true
    | .fr _ l => if d.noBx then l else true
    | .tn _ _ => true, snapF S 4 d)
/-- what a call in a region of its own hands back -/
def outP (r : Kd × D × Sto) : R (Kd × D) := match r with
  | (k, d, _) => if d.noBx then (if d.imm then .ok (.vl false, d) else match k with
    | .vl false => .ok (.vl false, d)
    | .fr j false => .ok (.fr j false, d)
    | _ => .stuck) else .stuck
def callP (Γ : Ga) (f : Nat) (as : List (Bool × D)) (S : Sto) (m : Bool) : R Res := if as.all (fun a => a.2.noBx) then match Γ.call f as [] with
  | .ok r => (outP r).bind fun (k, d) => .ok (k, d, S, m)
  | .exc c _ => .exc c S
  | .stuck => .stuck else .stuck
def callI (Γ : Ga) (f : Nat) (as : List (Bool × D)) (S : Sto) : R Res := (Γ.call f as S).bind fun (k, d, S') => match asVal (k, d) with
  | some _ => .ok (k, d, S', true)
  | none => .stuck
def isTn : Vd → Bool
  | (.tn _ _, _) => true
  | _ => false
def setB (S : Sto) (n : Nat) (d : D) : Sto := match S[n]? with
  | some (some b) => S.set n (some { b with d := d })
  | _ => S
/-- what a method that changes its receiver does -/
def mutv (mo : Mo) (rem : Nat) (ln : Bool) (d : D) (as : List Vd) : Option (D × Vd) :=
  let out (x : D) : Vd := norm (if rem = 0 then .vl ln else .fr rem ln, x)
  match mo, d, as with
  | .append, .lst xs, [a] => if fits rem ln a ∧ xs.length < sizeLine then some (.lst (xs ++ [a.2]), .vl false, .non) else none
  | .extend, .lst xs, [(k, .lst ys)] => if xs.length + ys.length ≤ sizeLine ∧ (immL ys || (decide (rem = 0) && match k with
      | .vl l => !l || ln
      | .fr _ l => !l || ln
      | _ => false)) = true then some (.lst (xs ++ ys), .vl false, .non) else none
  | .pop0, .lst xs, [] => (xs[xs.length - 1]?).map fun x => (.lst xs.dropLast, out x)
  | .pop1, .lst xs, [(_, .int i)] => if -(2 ^ 63) ≤ i ∧ i < 2 ^ 63 then (ixN xs.length i).bind fun j => (xs[j]?).map fun x => (.lst (xs.eraseIdx j), out x) else none
  | .pop1, .dK ks xs, [(_, y)] => (dPos (.dK ks xs) y).bind fun o => o.bind fun j => (xs[j]?).map fun x => (.dK (ks.eraseIdx j) (xs.eraseIdx j), out x)
  | .insert, .lst xs, [(_, .int i), a] => if fits rem ln a ∧ xs.length < sizeLine ∧ 0 ≤ i ∧ i < 2 ^ 63 then some (.lst (xs.take i.toNat ++ [a.2] ++ xs.drop i.toNat), .vl false, .non) else none
  | .remove, .lst xs, [(_, y)] => y.flat.bind fun v => (flatL xs).bind fun vs => (vs.findIdx? (fun z => eqV z v)).map fun j => (.lst (xs.eraseIdx j), .vl false, .non)
  | .reverse, .lst xs, [] => some (.lst xs.reverse, .vl false, .non)
  | .clear, .lst _, [] => some (.lst [], .vl false, .non)
  | _, _, _ => none
/-- d[y] = a -/
def setv (rem : Nat) (ln : Bool) (d : D) (y : D) (a : Vd) : Option D := if fits rem ln a then match d, y with
  | .lst xs, .int i => (ixN xs.length i).map fun j => .lst (xs.set j a.2)
  | .dK ks xs, y => if ks.length < sizeLine then y.key.map fun k => match posOf ks k with
    | some j => .dK ks (xs.set j a.2)
    | none => .dK (ks ++ [k]) (xs ++ [a.2]) else none
  | .dT ks xs, .tup ys => if ks.length < sizeLine then (keyL ys).map fun k => match posOf ks k with
    | some j => .dT ks (xs.set j a.2)
    | none => .dT (ks ++ [k]) (xs ++ [a.2]) else none
  | _, _ => none else none
def setf (rem : Nat) (ln : Bool) (d : D) (f : Str) (a : Vd) : Option D := if fits rem ln a then match d with
  | .obj c fs xs => if fs.length < 1000 then some (match posOf fs f with
    | some j => .obj c fs (xs.set j a.2)
    | none => .obj c (fs ++ [f]) (xs ++ [a.2])) else none
  | _ => none else none
/-- a receiver within an unlocked box: the box, the path, what stands there now -/
def place (S : Sto) : Vd → Option (Nat × List Nat × Bx × D)
  | (k, d) => match der S (k, d) with
    | some (.tn n p, _) => match S[n]? with
      | some (some b) => if b.lk then none else if p.length < b.dp then (pathGet b.d p).map fun x => (n, p, b, x) else none
      | _ => none
    | _ => none

/-- what a method may be called of -/
def tyMut (mo : Mo) (d0 d : D) : Bool := match mo, d0, d with
  | .pop1, .dK _ _, .dK _ _ => true
  | _, .lst _, .lst _ => true
  | _, _, _ => false
def isVl : Kd → Bool
  | .vl _ => true
  | _ => false
def isMth : Op → Bool
  | .join | .split | .find1 | .find2 | .index | .count | .get1 | .get2 => true
  | _ => false

def tyHead (o : Op) (S : Sto) (as : List Vd) : Bool := match as with
  | [] => false
  | a :: _ => match o, der S a with
    | .join, some (_, .str _) => true
    | .split, some (_, .str _) => true
    | .find1, some (_, .str _) => true
    | .find2, some (_, .str _) => true
    | .index, some (_, .lst _) => true
    | .count, some (_, .lst _) => true
    | .get1, some (_, .dK _ _) => true
    | .get1, some (_, .dT _ _) => true
    | .get2, some (_, .dK _ _) => true
    | .get2, some (_, .dT _ _) => true
    | _, _ => false
def lockB (S : Sto) (n : Nat) (l : Bool) : Sto := match S[n]? with
  | some (some b) => S.set n (some { b with lk := l })
  | _ => S
def lockOf (S : Sto) (n : Nat) : Bool := match S[n]? with
  | some (some b) => b.lk
  | _ => false
def lockO (S : Sto) : Option Nat → Sto
  | none => S
  | some n => lockB S n true
def blOf : D → Option Bool
  | .bl b => some b
  | _ => none
def itemsOf (S : Sto) (k : Kd) (xs : List D) : Option (List (Bool × D) × Option Nat) := match k with
  | .tn n _ => (settle S k xs).map fun l => (xs.map fun d => (l, d), some n)
  | k => (settle S k xs).map fun l => (xs.map fun d => (l, d), none)
def enuL : Nat → List (Bool × D) → List (Bool × D)
  | _, [] => []
  | i, (l, d) :: r => (l, .tup [.int i, d]) :: enuL (i + 1) r
/-- the targets of a walk -/
def bindT (env : EnvD) (tg : List Nat) (tp : Bool) (x : Bool × D) : Option EnvD := if tp then (match x.2 with
  | .tup xs => if xs.length = tg.length then some ((tg.zip xs).foldl (fun e p => e.set p.1 (some (if p.2.imm then false else x.1, p.2))) env) else none
  | _ => none) else match tg with
  | [i] => some (env.set i (some x))
  | _ => none
def lcGo {α : Type} (items : List α) (f : α → R (Option D)) : R (List D) := match items with
  | [] => .ok []
  | x :: r => (f x).bind fun o => (lcGo r f).bind fun ds => .ok (match o with
    | some d => d :: ds
    | none => ds)
/-- the class of the error that the name at i bears -/
def xOf (Γ : Ga) (env : EnvD) (i : Nat) : Option Nat := match env[i]?, Γ.xn with
  | some (some (_, .bx m)), some (m', c) => if m = m' then some c else none
  | _, _ => none
section
variable (Γ : Ga)
mutual
def ev : E → EnvD → Sto → R Res
  | .v i mv, env, S => match env[i]? with
    | some (some (l, d)) => if mv then (match d with
      | .bx n => match S[n]? with
        | some (some b) => if b.lk then .stuck else .ok (.fr b.dp b.ln, b.d, S.set n none, true)
        | _ => .stuck
      | _ => .stuck) else .ok (.vl l, d, S, false)
    | _ => .stuck
  | .k c, _, S => .ok (.vl false, c, S, false)
  | .g _ c, _, S => .ok (.vl false, c, S, false)
  | .op o es, env, S => (noxIf (isMth o) (evs es env S)).bind fun (as, S1, m) => if isMth o && (m || !tyHead o S as) then .stuck else (ofO ((derL S1 as).bind fun bs => opv o S1 bs)).bind fun (k, d) => .ok (k, d, S1, m)
  | .ch o1 o2 a b c, env, S => (ev a env S).bind fun (k1, d1, S1, m1) => if m1 then .stuck else (ev b env S).bind fun (k2, d2, S2, m2) => if m2 || !isVl k2 then .stuck else
      (ofO ((derL S [(k1, d1), (k2, d2)]).bind fun bs => opv o1 S bs)).bind fun (_, d) => match d with
      | .bl true => (ev c env S).bind fun (k3, d3, S3, m3) => if m3 then .stuck else (ofO ((derL S [(k2, d2), (k3, d3)]).bind fun bs => opv o2 S bs)).bind fun (k, d) => .ok (k, d, S, false)
      | .bl false => .ok (.vl false, .bl false, S, false)
      | _ => .stuck
  | .and' a b, env, S => (ev a env S).bind fun (_, d, S1, m) => match d with
    | .bl true => (ev b env S1).bind fun (k2, d2, S2, m2) => .ok (k2, d2, S2, m || m2)
    | .bl false => .ok (.vl false, .bl false, S1, m)
    | _ => .stuck
  | .or' a b, env, S => (ev a env S).bind fun (_, d, S1, m) => match d with
    | .bl false => (ev b env S1).bind fun (k2, d2, S2, m2) => .ok (k2, d2, S2, m || m2)
    | .bl true => .ok (.vl false, .bl true, S1, m)
    | _ => .stuck
  | .call p f es, env, S => (evs es env S).bind fun (as, S1, m) => if p then callP Γ f (as.map (argP S1)) S1 m
    else (ofO (argsI as)).bind fun xs => callI Γ f xs S1
  | .meth p me o es, env, S => (ev o env S).nox.bind fun (k0, d0, S0, m0) => if m0 then .stuck else (ofO (der S (k0, d0))).bind fun (_, d) => match d with
      | .obj c fs _ => if (posOf fs me).isSome then .stuck else (ofO (methOf Γ.cls c me)).bind fun f => (evs es env S).bind fun (as, S1, m) => if m then .stuck else
        if p then callP Γ f (((k0, d0) :: as).map (argP S)) S false
        else (ofO (argsI ((k0, d0) :: as))).bind fun xs => callI Γ f xs S
      | _ => .stuck
  | .mk bxd c dp ln es, env, S => (ofO (methOf Γ.cls c "__init__")).bind fun f => (evs es env S).bind fun (as, S1, _) => (ofO (argsI as)).bind fun xs =>
      (Γ.call f ((false, .bx S1.length) :: xs) (S1 ++ [some ⟨dp + 1, ln, false, .obj c [] []⟩])).bind fun (_, d0, S2) => if !opIsN d0 then .stuck else if bxd then .ok (.vl false, .bx S1.length, S2, true)
        else match S2[S1.length]? with
        | some (some b) => if b.lk then .stuck else .ok (.fr b.dp b.ln, b.d, S2.set S1.length none, true)
        | _ => .stuck
  | .mut mo o es, env, S => (ev o env S).nox.bind fun (k0, d0, S0, m0) => if m0 then .stuck else (ofO (place S (k0, d0))).bind fun (_, _, _, d00) => if !tyMut mo d00 d00 then .stuck else (evs es env S).bind fun (as, S1, m) =>
      (ofO (place S1 (k0, d0))).bind fun (n, p, b, d) => if (m && !p.isEmpty) || !tyMut mo d00 d then .stuck else
      (ofO ((derL S1 as).bind fun bs => mutv mo (b.dp - p.length - 1) b.ln d bs)).bind fun (d', k, r) => .ok (k, r, setB S1 n (pathSet b.d p d'), true)
  | .lc dp ln tg tp it ifs elt, env, S => (evIt it env S).bind fun (items, bo, S1, m) => if m then .stuck else
      (lcGo items (fun x => (ofO (bindT env tg tp x)).bind fun env' => (evC ifs env' (lockO S bo)).bind fun b => if b then (ev elt env' (lockO S bo)).bind fun (k, d, _, m2) => if m2 || !fits dp ln (k, d) then .stuck else .ok (some d) else .ok none)).nox.bind fun ds =>
      if ds.length ≤ sizeLine then .ok (.fr (dp + 1) ln, .lst ds, S, false) else .stuck
  | .isX o i, env, S => (ofO (xOf Γ env i)).bind fun c => .ok (.vl false, .bl (subX c o), S, false)
  | .callX f i, env, S => (ofO (xOf Γ env i)).bind fun c => ((Γ.callx f c).nox.bind outP).bind fun (k, d) => .ok (k, d, S, false)
/-- from the left; none may look into a box that a later one may change -/
def evs : List E → EnvD → Sto → R (List Vd × Sto × Bool)
  | [], _, S => .ok ([], S, false)
  | e :: es, env, S => (ev e env S).bind fun (k, d, S1, m1) => (evs es env S1).bind fun (as, S2, m2) => if m2 && isTn (k, d) then .stuck else .ok ((k, d) :: as, S2, m1 || m2)
/-- conditions of a comprehension -/
def evC : List Cd → EnvD → Sto → R Bool
  | [], _, _ => .ok true
  | c :: cs, env, S => (tst c env S).bind fun (b, _, m) => if m then .stuck else if b then evC cs env S else .ok false
/-- a test: its truth -/
def tst : Cd → EnvD → Sto → R (Bool × Sto × Bool)
  | .and' a b, env, S => (tst a env S).bind fun (c, S1, m) => if c then (tst b env S1).bind fun (c2, S2, m2) => .ok (c2, S2, m || m2) else .ok (false, S1, m)
  | .or' a b, env, S => (tst a env S).bind fun (c, S1, m) => if c then .ok (true, S1, m) else (tst b env S1).bind fun (c2, S2, m2) => .ok (c2, S2, m || m2)
  | .not' a, env, S => (tst a env S).bind fun (c, S1, m) => .ok (!c, S1, m)
  | .b e, env, S => (ev e env S).bind fun (_, d, S1, m) => (ofO (blOf d)).bind fun b => .ok (b, S1, m)
  | .t e, env, S => (ev e env S).bind fun (k, d, S1, m) => (ofO ((der S1 (k, d)).bind fun a => truthD a.2)).bind fun b => .ok (b, S1, m)
/-- what is walked: the items, the box that is walked through -/
def evIt : It → EnvD → Sto → R (List (Bool × D) × Option Nat × Sto × Bool)
  | .seq e, env, S => (ev e env S).bind fun (k, d, S1, m) => (ofO (der S1 (k, d))).bind fun (k, d) => match d with
    | .lst xs => (ofO (itemsOf S1 k xs)).bind fun r => .ok (r.1, r.2, S1, m)
    | .tup xs => (ofO (itemsOf S1 k xs)).bind fun r => .ok (r.1, r.2, S1, m)
    | .str z => .ok (z.cps.toList.map fun c => (false, .str ⟨#[c]⟩), none, S1, m)
    | _ => .stuck
  | .rng es, env, S => (evs es env S).bind fun (as, S1, m) => match as with
    | [(_, .int n)] => if -(2 ^ 62) ≤ n ∧ n < 2 ^ 62 then .ok ((List.range n.toNat).map fun (i : Nat) => (false, D.int i), none, S1, m) else .stuck
    | [(_, .int a), (_, .int b)] => if -(2 ^ 62) ≤ a ∧ a < 2 ^ 62 ∧ -(2 ^ 62) ≤ b ∧ b < 2 ^ 62 then .ok ((List.range (b - a).toNat).map fun (i : Nat) => (false, D.int (a + i)), none, S1, m) else .stuck
    | _ => .stuck
  | .enu e, env, S => (ev e env S).bind fun (k, d, S1, m) => (ofO (der S1 (k, d))).bind fun (k, d) => match d with
    | .lst xs => (ofO (itemsOf S1 k xs)).bind fun r => .ok (enuL 0 r.1, r.2, S1, m)
    | _ => .stuck
  | .rev e, env, S => (ev e env S).bind fun (k, d, S1, m) => (ofO (der S1 (k, d))).bind fun (k, d) => match d with
    | .lst xs => (ofO (itemsOf S1 k xs)).bind fun r => .ok (r.1.reverse, r.2, S1, m)
    | _ => .stuck
end

/-- how a statement ends -/
inductive SO where
  | nx (env : EnvD) (S : Sto) | ct (env : EnvD) (S : Sto) | ret (k : Kd) (d : D) (S : Sto) | exc (c : Nat) (env : EnvD) (S : Sto) | stuck
def R.so {α : Type} (r : R α) (env : EnvD) (f : α → SO) : SO := match r with
  | .ok a => f a
  | .exc c S => .exc c env S
  | .stuck => .stuck
def oso {α : Type} (r : Option α) (f : α → SO) : SO := match r with
  | some a => f a
  | none => .stuck
def isCon : D → Bool
  | .lst _ | .dK _ _ | .dT _ _ | .obj _ _ _ => true
  | _ => false
def isBx : D → Bool
  | .bx _ => true
  | _ => false
/-- a name's new value -/
def bindV (env : EnvD) (S : Sto) (i : Nat) (b : Option (Nat × Bool)) (a : Vd) : Option (EnvD × Sto) := match b with
  | some (dp, ln) => if isCon a.2 then (if fits (dp + 1) ln a then some (env.set i (some (false, .bx S.length)), S ++ [some ⟨dp + 1, ln, false, a.2⟩]) else none)
    else (asVal a).map fun l => (env.set i (some (l, a.2)), S)
  | none => (asVal a).map fun l => (env.set i (some (l, a.2)), S)
def SO.mapS (f : Sto → Sto) : SO → SO
  | .nx e S => .nx e (f S)
  | .ct e S => .ct e (f S)
  | .ret k d S => .ret k d (f S)
  | .exc c e S => .exc c e (f S)
  | .stuck => .stuck
def forGo (items : List (Bool × D)) (f : Bool × D → EnvD → Sto → SO) (env : EnvD) (S : Sto) : SO := match items with
  | [] => .nx env S
  | x :: r => match f x env S with
    | .nx e s => forGo r f e s
    | .ct e s => forGo r f e s
    | o => o
def whGo (f : EnvD → Sto → Option SO) : Nat → EnvD → Sto → SO
  | 0, _, _ => .stuck
  | n + 1, env, S => match f env S with
    | none => .nx env S
    | some (.nx e s) => whGo f n e s
    | some (.ct e s) => whGo f n e s
    | some o => o
/-- the turns that a while may have -/
def whMost : Nat := 10 ^ 9
def unpTo (env : EnvD) (S : Sto) (is : List Nat) (a : Vd) : Option EnvD := match a with
  | (k, .tup xs) => if xs.length = is.length then (settle S k xs).map fun l => (is.zip xs).foldl (fun e p => e.set p.1 (some (if p.2.imm then false else l, p.2))) env else none
  | _ => none
end
/-- the error's name at an except suite's start, at its end -/
def bindX (o : Option Nat) (e : EnvD) (m : Nat) : EnvD := match o with
  | some i => e.set i (some (true, .bx m))
  | none => e
def goneX (o : Option Nat) (e : EnvD) : EnvD := match o with
  | some i => e.set i none
  | none => e
def suiteR (o : Option Nat) (r : SO) : SO := match r with
  | .nx e S => .nx (goneX o e) S
  | .ct e S => .ct (goneX o e) S
  | .ret k d S => .ret k d S
  | _ => .stuck
mutual
def ex1 (Γ : Ga) : St → EnvD → Sto → SO
  | .asg i b e, env, S => (ev Γ e env S).so env fun (k, d, S1, _) => oso (bindV env S1 i b (k, d)) fun (e', S2) => .nx e' S2
  | .unp is e, env, S => (ev Γ e env S).so env fun (k, d, S1, _) => oso (unpTo env S1 is (k, d)) fun e' => .nx e' S1
  | .sub o i e, env, S => (ev Γ e env S).so env fun (k, d, S1, _) => if isTn (k, d) then .stuck else (ev Γ o env S1).so env fun (k0, d0, _, m0) => if m0 then .stuck else
      (ev Γ i env S1).so env fun (k2, d2, _, m2) => if m2 then .stuck else oso ((place S1 (k0, d0)).bind fun (n, p, b, x) => (setv (b.dp - p.length - 1) b.ln x d2 (k, d)).map fun x' => setB S1 n (pathSet b.d p x')) fun S2 => .nx env S2
  | .fld o f e, env, S => (ev Γ e env S).so env fun (k, d, S1, _) => if isTn (k, d) then .stuck else (ev Γ o env S1).so env fun (k0, d0, _, m0) => if m0 then .stuck else
      oso ((place S1 (k0, d0)).bind fun (n, p, b, x) => (setf (b.dp - p.length - 1) b.ln x f (k, d)).map fun x' => setB S1 n (pathSet b.d p x')) fun S2 => .nx env S2
  | .ex e, env, S => (ev Γ e env S).so env fun (_, _, S1, _) => .nx env S1
  | .ite c a b, env, S => (tst Γ c env S).so env fun (t, S1, _) => if t then exs Γ a env S1 else exs Γ b env S1
  | .for' tg tp it b, env, S => (evIt Γ it env S).so env fun (items, bo, S1, _) => match bo with
    | none => forGo items (fun x e s => oso (bindT e tg tp x) fun e' => exs Γ b e' s) env S1
    | some n => (forGo items (fun x e s => oso (bindT e tg tp x) fun e' => exs Γ b e' s) env (lockB S1 n true)).mapS fun s => lockB s n (lockOf S1 n)
  | .whl c b, env, S => whGo (fun e s => match tst Γ c e s with
    | .ok (t, s1, m) => if m then some .stuck else if t then some (exs Γ b e s) else none
    | .exc c s1 => some (.exc c e s1)
    | .stuck => some .stuck) whMost env S
  | .ret e, env, S => (ev Γ e env S).so env fun (k, d, S1, _) => if isTn (k, d) then .stuck else .ret k d S1
  | .retN, _, S => .ret (.vl false) .non S
  | .raise c, env, S => .exc c env S
  | .tr0 b, env, S => match exs Γ b env S with
    | .exc _ _ _ => .stuck
    | r => r
  | .tr b c o s, env, S => match exs Γ b env S with
    | .exc k e S1 => if Γ.nx ≤ k then .stuck else if subX k (some c) then suiteR o (exs ⟨Γ.call, Γ.cls, some (S1.length, k), Γ.callx, Γ.nx⟩ s (bindX o e S1.length) (S1 ++ [none])) else .exc k e S1
    | r => r
  | .pass, env, S => .nx env S
  | .cont, env, S => .ct env S
  | .fz i, env, S => match env[i]? with
    | some (some (_, .bx n)) => match S[n]? with
      | some (some b) => if b.lk then .stuck else .nx (env.set i (some (b.ln, b.d))) (S.set n none)
      | _ => .stuck
    | _ => .nx env S
def exs (Γ : Ga) : List St → EnvD → Sto → SO
  | [], env, S => .nx env S
  | s :: ss, env, S => match ex1 Γ s env S with
    | .nx e S1 => exs Γ ss e S1
    | o => o
end

structure FnI where
  name : Str
  np : Nat
  nl : Nat
  dfl : List D
  body : List St
  /-- called from except suites with the error alone -/
  hot : Bool := false
structure Pg where
  fns : List FnI
  cls : List ClsI
  /-- how many classes of errors there are -/
  nx : Nat
def runX (P : Pg) (f c : Nat) : R (Kd × D × Sto) := match P.fns[f]? with
  | some fi => if fi.np = 1 then (match exs ⟨fun _ _ _ => .stuck, [], some (0, c), fun _ _ => .stuck, P.nx⟩ fi.body (some (true, .bx 0) :: List.replicate (fi.nl - 1) none) [none] with
        | .nx _ S' => .ok (.vl false, .non, S')
        | .ret k d S' => .ok (k, d, S')
        | .exc c _ S' => .exc c S'
        | _ => .stuck) else .stuck
  | none => .stuck
def run (P : Pg) : Nat → Nat → List (Bool × D) → Sto → R (Kd × D × Sto)
  | 0, _, _, _ => .stuck
  | n + 1, f, args, S => match P.fns[f]? with
    | some fi => if fi.hot then .stuck else
      let as := args ++ (fi.dfl.drop (fi.dfl.length - (fi.np - args.length))).map fun d => (false, d)
      if as.length = fi.np then match exs ⟨run P n, P.cls, none, runX P, P.nx⟩ fi.body (as.map some ++ List.replicate (fi.nl - fi.np) none) S with
        | .nx _ S' => .ok (.vl false, .non, S')
        | .ret k d S' => .ok (k, d, S')
        | .exc c _ S' => .exc c S'
        | _ => .stuck
      else .stuck
    | none => .stuck
end Z

namespace Z
open PySem L2

structure Gh where
  F : Hp
  L : Hp
  r : Rho
  fp : Nat → List Addr
def Gh.G (g : Gh) (l : Bool) : Hp := if l then g.L else g.F
def Live (S : Sto) (n : Nat) (b : Bx) : Prop := S[n]? = some (some b)
def Own (g : Gh) (S : Sto) (a : Addr) : Prop := ∃ n b, Live S n b ∧ a ∈ g.fp n
def OwnU (g : Gh) (S : Sto) (a : Addr) : Prop := ∃ n b, Live S n b ∧ b.lk = false ∧ a ∈ g.fp n
theorem OwnU.own {g : Gh} {S : Sto} {a : Addr} (h : OwnU g S a) : Own g S a := let ⟨n, b, h1, _, h2⟩ := h; ⟨n, b, h1, h2⟩

structure Rg (W : Wr) (g : Gh) (S : Sto) (H : Hp) : Prop where
  fl : Ex g.F g.L
  lh : Ex g.L H
  tup : TupIn g.F H
  box : ∀ n b, Live S n b → ∃ a, g.r n = some a ∧ Rt W g.r (g.G b.ln) H b.d b.dp (.ref a) (g.fp n)
  nd : ∀ n b, Live S n b → (g.fp n).Nodup
  dis : ∀ n m b c, Live S n b → Live S m c → n ≠ m → ∀ a ∈ g.fp n, a ∉ g.fp m
  off : ∀ n b, Live S n b → ∀ a ∈ g.fp n, g.L a = none
  rho : ∀ n a, g.r n = some a → n < S.length

/-- how a region goes on; T: cells that were nobody's and may have been taken -/
structure Gr (T : Addr → Prop) (g : Gh) (S : Sto) (H : Hp) (g' : Gh) (S' : Sto) (H' : Hp) : Prop where
  f : Ex g.F g'.F
  l : Ex g.L g'.L
  r : RhoLe g.r g'.r
  fr : ∀ a o, H a = some o → ¬ OwnU g S a → ¬ T a → H' a = some o
  fo : ∀ a, g'.F a ≠ none → g.F a ≠ none ∨ H a = none ∨ OwnU g S a ∨ T a
  lo : ∀ a, g'.L a ≠ none → g.L a ≠ none ∨ H a = none ∨ OwnU g S a ∨ T a
  oo : ∀ a, OwnU g' S' a → OwnU g S a ∨ H a = none ∨ T a
  lk : ∀ n b, b.lk = true → (Live S n b ↔ Live S' n b) ∧ (Live S n b → g'.fp n = g.fp n)
  len : S.length ≤ S'.length
abbrev T0 : Addr → Prop := fun _ => False

section
variable {W : Wr} {g g' g1 g2 : Gh} {S S' S1 S2 : Sto} {H H' H1 H2 : Hp}
variable {T T1 T2 : Addr → Prop}
theorem Gh.G_ex (h : Gr T g S H g' S' H') (l : Bool) : Ex (g.G l) (g'.G l) := by
  cases l
  · exact h.f
  · exact h.l
theorem Rg.G_h (R : Rg W g S H) (l : Bool) : Ex (g.G l) H := by
  cases l
  · exact R.fl.trans R.lh
  · exact R.lh
theorem Rg.G_l (R : Rg W g S H) (l : Bool) : Ex (g.G l) g.L := by
  cases l
  · exact R.fl
  · exact Ex.refl _
theorem Rg.G_le (R : Rg W g S H) {l m : Bool} (h : (!l || m) = true) : Ex (g.G l) (g.G m) := by
  cases l <;> cases m
  · exact Ex.refl _
  · exact R.fl
  · cases h
  · exact Ex.refl _
theorem Gr.refl : Gr T g S H g S H := ⟨Ex.refl _, Ex.refl _, fun _ _ h => h, fun _ _ h _ _ => h, fun _ h => .inl h, fun _ h => .inl h, fun _ h => .inl h, fun _ _ _ => ⟨.rfl, fun _ => rfl⟩, Nat.le_refl _⟩
theorem Gr.own (h : Gr T g S H g' S' H') {a : Addr} (o : Own g' S' a) : Own g S a ∨ H a = none ∨ T a := by
  obtain ⟨n, b, h1, h2⟩ := o
  cases e : b.lk with
  | false =>
    rcases h.oo a ⟨n, b, h1, e, h2⟩ with z | z
    · exact .inl z.own
    · exact .inr z
  | true =>
    obtain ⟨i, j⟩ := h.lk n b e
    have l := i.mpr h1
    exact .inl ⟨n, b, l, by rw [← j l]; exact h2⟩
theorem Gr.none_back (h : Gr T g S H g1 S1 H1) {a : Addr} (e : H1 a = none) : H a = none ∨ OwnU g S a ∨ T a := by
  by_cases o : OwnU g S a
  · exact .inr (.inl o)
  · by_cases t : T a
    · exact .inr (.inr t)
    · cases q : H a with
      | none => exact .inl rfl
      | some u => rw [h.fr a u q o t] at e; cases e
/-- what was nobody's stays so, if it wasn't taken -/
theorem Gr.trans (h : Gr T1 g S H g1 S1 H1) (k : Gr T2 g1 S1 H1 g2 S2 H2) : Gr (fun a => T1 a ∨ T2 a) g S H g2 S2 H2 := by
  have A : ∀ a, H1 a = none ∨ OwnU g1 S1 a ∨ T2 a → H a = none ∨ OwnU g S a ∨ T1 a ∨ T2 a := fun a z => by
    rcases z with z | z | z
    · rcases h.none_back z with q | q | q
      · exact .inl q
      · exact .inr (.inl q)
      · exact .inr (.inr (.inl q))
    · rcases h.oo a z with q | q | q
      · exact .inr (.inl q)
      · exact .inl q
      · exact .inr (.inr (.inl q))
    · exact .inr (.inr (.inr z))
  refine ⟨h.f.trans k.f, h.l.trans k.l, fun n a e => k.r n a (h.r n a e), fun a o e no nt => ?_, fun a e => ?_, fun a e => ?_, fun a e => ?_, fun n b e => ?_, Nat.le_trans h.len k.len⟩
  · refine k.fr a o (h.fr a o e no fun z => nt (.inl z)) (fun z => ?_) fun z => nt (.inr z)
    rcases h.oo a z with q | q | q
    · exact no q
    · rw [q] at e; cases e
    · exact nt (.inl q)
  · rcases k.fo a e with z | z
    · rcases h.fo a z with q | q | q | q
      · exact .inl q
      · exact .inr (.inl q)
      · exact .inr (.inr (.inl q))
      · exact .inr (.inr (.inr (.inl q)))
    · exact .inr (A a z)
  · rcases k.lo a e with z | z
    · rcases h.lo a z with q | q | q | q
      · exact .inl q
      · exact .inr (.inl q)
      · exact .inr (.inr (.inl q))
      · exact .inr (.inr (.inr (.inl q)))
    · exact .inr (A a z)
  · rcases k.oo a e with z | z | z
    · rcases h.oo a z with q | q | q
      · exact .inl q
      · exact .inr (.inl q)
      · exact .inr (.inr (.inl q))
    · rcases A a (.inl z) with q | q | q
      · exact .inr (.inl q)
      · exact .inl q
      · exact .inr (.inr q)
    · exact .inr (.inr (.inr z))
  · obtain ⟨i, j⟩ := h.lk n b e
    obtain ⟨i2, j2⟩ := k.lk n b e
    exact ⟨i.trans i2, fun l => (j2 (i.mp l)).trans (j l)⟩
theorem Gr.imp (h : Gr T1 g S H g1 S1 H1) (k : ∀ a, T1 a → H a = none ∨ OwnU g S a ∨ T2 a) : Gr T2 g S H g1 S1 H1 := by
  refine ⟨h.f, h.l, h.r, fun a o e no nt => h.fr a o e no fun z => ?_, fun a e => ?_, fun a e => ?_, fun a e => ?_, h.lk, h.len⟩
  · rcases k a z with q | q | q
    · rw [q] at e; cases e
    · exact no q
    · exact nt q
  · rcases h.fo a e with z | z | z | z
    · exact .inl z
    · exact .inr (.inl z)
    · exact .inr (.inr (.inl z))
    · exact .inr (k a z)
  · rcases h.lo a e with z | z | z | z
    · exact .inl z
    · exact .inr (.inl z)
    · exact .inr (.inr (.inl z))
    · exact .inr (k a z)
  · rcases h.oo a e with z | z | z
    · exact .inl z
    · exact .inr (.inl z)
    · rcases k a z with q | q | q
      · exact .inr (.inl q)
      · exact .inl q
      · exact .inr (.inr q)

/-- the i-th child, by the tree and by the heap -/
def Kid (W : Wr) (G H : Hp) (i : Nat) : D → V → D → V → Prop
  | .tup xs, v, d, u => ∃ a vs, v = .ref a ∧ G a = some (.tup vs) ∧ xs[i]? = some d ∧ vs[i]? = some u
  | .lst xs, v, d, u => ∃ a vs, v = .ref a ∧ H a = some (.lst vs) ∧ xs[i]? = some d ∧ vs[i]? = some u
  | .dK _ xs, v, d, u => ∃ a kvs, v = .ref a ∧ H a = some (.dK kvs) ∧ xs[i]? = some d ∧ (kvs.map (·.2))[i]? = some u
  | .dT _ xs, v, d, u => ∃ a kvs, v = .ref a ∧ H a = some (.dT kvs) ∧ xs[i]? = some d ∧ (kvs.map (·.2))[i]? = some u
  | .obj c _ xs, v, d, u => ∃ a dx l, v = .ref a ∧ H a = some (.ins (W.cl c) dx l) ∧ xs[i]? = some d ∧ (l.map (·.2))[i]? = some u
  | _, _, _, _ => False
/-- along a path -/
def Pt (W : Wr) (G H : Hp) : List Nat → D → Nat → V → D → Nat → V → Prop
  | [], T, k, v, d, k', v' => T = d ∧ k = k' ∧ v = v'
  | i :: p, T, k, v, d, k', v' => ∃ j x u, k = j + 1 ∧ Kid W G H i T v x u ∧ Pt W G H p x j u d k' v'
/-- a value by its kind; fp: its own cells, where it is new -/
def RK (W : Wr) (g : Gh) (S : Sto) (H : Hp) : Vd → V → List Addr → Prop
  | (.vl l, d), v, fp => fp = [] ∧ Rv W g.r (g.G l) d v
  | (.fr k l, d), v, fp => Rt W g.r (g.G l) H d k v fp
  | (.tn n p, d), v, fp => fp = [] ∧ ∃ b a k', Live S n b ∧ g.r n = some a ∧ Pt W (g.G b.ln) H p b.d b.dp (.ref a) d k' v
def RKs (W : Wr) (g : Gh) (S : Sto) (H : Hp) : List Vd → List V → List Addr → Prop
  | [], vs, fp => vs = [] ∧ fp = []
  | a :: as, vs, fp => ∃ v ws f1 f2, vs = v :: ws ∧ fp = f1 ++ f2 ∧ RK W g S H a v f1 ∧ RKs W g S H as ws f2
/-- nobody's cells, new as N says -/
structure Fre (g : Gh) (S : Sto) (N : Addr → Prop) (fp : List Addr) : Prop where
  nd : fp.Nodup
  fr : ∀ a ∈ fp, g.L a = none ∧ ¬ Own g S a ∧ N a
theorem Kid.mono {G G' : Hp} (e : Ex G G') (h : Ex H H') {i : Nat} : ∀ {T d : D} {v u : V}, Kid W G H i T v d u → Kid W G' H' i T v d u
  | .tup _, _, _, _, ⟨a, vs, h1, h2, h3, h4⟩ => ⟨a, vs, h1, e _ _ h2, h3, h4⟩
  | .lst _, _, _, _, ⟨a, vs, h1, h2, h3, h4⟩ => ⟨a, vs, h1, h _ _ h2, h3, h4⟩
  | .dK _ _, _, _, _, ⟨a, vs, h1, h2, h3, h4⟩ => ⟨a, vs, h1, h _ _ h2, h3, h4⟩
  | .dT _ _, _, _, _, ⟨a, vs, h1, h2, h3, h4⟩ => ⟨a, vs, h1, h _ _ h2, h3, h4⟩
  | .obj _ _ _, _, _, _, ⟨a, dx, l, h1, h2, h3, h4⟩ => ⟨a, dx, l, h1, h _ _ h2, h3, h4⟩
  | .non, _, _, _, q => q
  | .bl _, _, _, _, q => q
  | .int _, _, _, _, q => q
  | .str _, _, _, _, q => q
  | .bx _, _, _, _, q => q
theorem Pt.mono {G G' : Hp} (e : Ex G G') (h : Ex H H') : ∀ {p : List Nat} {T d : D} {k k' : Nat} {v v' : V}, Pt W G H p T k v d k' v' → Pt W G' H' p T k v d k' v'
  | [], _, _, _, _, _, _, q => q
  | _ :: _, _, _, _, _, _, _, ⟨j, x, u, h1, h2, h3⟩ => ⟨j, x, u, h1, Kid.mono e h h2, Pt.mono e h h3⟩
theorem Pt.snoc {G : Hp} {i : Nat} {x : D} {u : V} {j : Nat} : ∀ {p : List Nat} {T d : D} {k : Nat} {v v' : V}, Pt W G H p T k v d (j + 1) v' → Kid W G H i d v' x u → Pt W G H (p ++ [i]) T k v x j u
  | [], _, _, _, _, _, ⟨h1, h2, h3⟩, q => by
    subst h1 h2 h3
    exact ⟨j, x, u, rfl, q, rfl, rfl, rfl⟩
  | _ :: _, _, _, _, _, _, ⟨j', x', u', h1, h2, h3⟩, q => ⟨j', x', u', h1, h2, Pt.snoc h3 q⟩
theorem Pt.len {G : Hp} : ∀ {p : List Nat} {T d : D} {k k' : Nat} {v v' : V}, Pt W G H p T k v d k' v' → k = k' + p.length
  | [], _, _, _, _, _, _, ⟨_, h2, _⟩ => h2
  | _ :: p, _, _, _, _, _, _, ⟨j', x', u', h1, h2, h3⟩ => by
    have := Pt.len h3
    rw [h1, this, List.length_cons]
    omega
theorem Kid.kids {G : Hp} {i : Nat} : ∀ {T d : D} {v u : V}, Kid W G H i T v d u → T.kids[i]? = some d
  | .tup _, _, _, _, ⟨a, vs, h1, h2, h3, h4⟩ => h3
  | .lst _, _, _, _, ⟨a, vs, h1, h2, h3, h4⟩ => h3
  | .dK _ _, _, _, _, ⟨a, vs, h1, h2, h3, h4⟩ => h3
  | .dT _ _, _, _, _, ⟨a, vs, h1, h2, h3, h4⟩ => h3
  | .obj _ _ _, _, _, _, ⟨a, dx, l, h1, h2, h3, h4⟩ => h3
  | .non, _, _, _, q => q.elim
  | .bl _, _, _, _, q => q.elim
  | .int _, _, _, _, q => q.elim
  | .str _, _, _, _, q => q.elim
  | .bx _, _, _, _, q => q.elim
theorem Pt.get {G : Hp} : ∀ {p : List Nat} {T d : D} {k k' : Nat} {v v' : V}, Pt W G H p T k v d k' v' → pathGet T p = some d
  | [], _, _, _, _, _, _, ⟨h1, _, _⟩ => by rw [h1]; rfl
  | i :: p, _, _, _, _, _, _, ⟨j', x', u', h1, h2, h3⟩ => by
    unfold pathGet
    rw [h2.kids]
    exact Pt.get h3
/-- a child in a list of trees -/
theorem RtL.get {ρ : Rho} {G : Hp} : ∀ {ds : List D} {k : Nat} {vs : List V} {fp : List Addr} {i : Nat} {d : D}, RtL W ρ G H ds k vs fp → ds[i]? = some d → ∃ v pre f post, vs[i]? = some v ∧ fp = pre ++ f ++ post ∧ Rt W ρ G H d k v f ∧
    (∀ {ρ' : Rho} {G' H' : Hp} {d' : D} {f' : List Addr}, Ex G G' → RhoLe ρ ρ' → (∀ a ∈ pre ++ post, ∀ o, H a = some o → H' a = some o) → Rt W ρ' G' H' d' k v f' → RtL W ρ' G' H' (ds.set i d') k vs (pre ++ f' ++ post)) ∧
    (∀ {ρ' : Rho} {G' H' : Hp} {d' : D} {v' : V} {f' : List Addr}, Ex G G' → RhoLe ρ ρ' → (∀ a ∈ pre ++ post, ∀ o, H a = some o → H' a = some o) → Rt W ρ' G' H' d' k v' f' → RtL W ρ' G' H' (ds.set i d') k (vs.set i v') (pre ++ f' ++ post)) ∧
    (∀ {ρ' : Rho} {G' H' : Hp}, Ex G G' → RhoLe ρ ρ' → (∀ a ∈ pre ++ post, ∀ o, H a = some o → H' a = some o) → RtL W ρ' G' H' (ds.eraseIdx i) k (vs.eraseIdx i) (pre ++ post))
  | [], _, _, _, _, _, _, e => by simp at e
  | x :: ds, k, _, _, 0, d, ⟨v, ws, f1, f2, h1, h2, h3, h4⟩, e => by
    simp at e; subst e; subst h1
    refine ⟨v, [], f1, f2, rfl, by rw [h2]; rfl, h3, fun {ρ' G' H' d' f'} e r k' q => ⟨v, ws, f', f2, rfl, rfl, q, RtL.mono e r (fun a ha => k' a ha) h4⟩, fun {ρ' G' H' d' v' f'} e r k' q => ⟨v', ws, f', f2, rfl, rfl, q, RtL.mono e r (fun a ha => k' a ha) h4⟩,
      fun {ρ' G' H'} e r k' => RtL.mono e r (fun a ha => k' a ha) h4⟩
  | x :: ds, k, _, _, i + 1, d, ⟨v, ws, f1, f2, h1, h2, h3, h4⟩, e => by
    subst h1
    obtain ⟨u, pre, f, post, e1, e2, e3, e4, e5, e6⟩ := RtL.get (i := i) h4 (by simpa using e)
    refine ⟨u, f1 ++ pre, f, post, by simpa using e1, by rw [h2, e2]; simp, e3, fun {ρ' G' H' d' f'} e r k' q => ?_, fun {ρ' G' H' d' v' f'} e r k' q => ?_, fun {ρ' G' H'} e r k' => ?_⟩
    · exact ⟨v, ws, f1, pre ++ f' ++ post, rfl, by simp, Rt.mono e r (fun a ha => k' a (by simp [ha])) h3, e4 e r (fun a ha => k' a (by simp at ha ⊢; rcases ha with z | z <;> simp [z])) q⟩
    · exact ⟨v, ws.set i v', f1, pre ++ f' ++ post, rfl, by simp, Rt.mono e r (fun a ha => k' a (by simp [ha])) h3, e5 e r (fun a ha => k' a (by simp at ha ⊢; rcases ha with z | z <;> simp [z])) q⟩
    · exact ⟨v, ws.eraseIdx i, f1, pre ++ post, rfl, by simp, Rt.mono e r (fun a ha => k' a (by simp [ha])) h3, e6 e r (fun a ha => k' a (by simp at ha ⊢; rcases ha with z | z <;> simp [z]))⟩
end
end Z

namespace Z
open PySem L2
section
variable {W : Wr} {ρ : Rho} {G H : Hp}
mutual
theorem Rt.there : ∀ {d : D} {k : Nat} {v : V} {fp : List Addr}, Rt W ρ G H d k v fp → ∀ a ∈ fp, ∃ o, H a = some o
  | .non, _, _, _, ⟨h1, _⟩, a, ha => by rw [h1] at ha; cases ha
  | .bl _, _, _, _, ⟨h1, _⟩, a, ha => by rw [h1] at ha; cases ha
  | .int _, _, _, _, ⟨h1, _⟩, a, ha => by rw [h1] at ha; cases ha
  | .str _, _, _, _, ⟨h1, _⟩, a, ha => by rw [h1] at ha; cases ha
  | .bx _, _, _, _, ⟨h1, _⟩, a, ha => by rw [h1] at ha; cases ha
  | .tup _, 0, _, _, ⟨h1, _⟩, a, ha => by rw [h1] at ha; cases ha
  | .tup _, k + 1, _, _, ⟨b, vs, h1, h2, h3⟩, a, ha => RtL.there h3 a ha
  | .lst _, 0, _, _, ⟨h1, _⟩, a, ha => by rw [h1] at ha; cases ha
  | .lst _, k + 1, _, _, ⟨b, vs, f, h1, h2, h3, h4⟩, a, ha => by
    rw [h2] at ha
    rcases List.mem_cons.mp ha with e | e
    · rw [e]; exact ⟨_, h3⟩
    · exact RtL.there h4 a e
  | .dK _ _, 0, _, _, ⟨h1, _⟩, a, ha => by rw [h1] at ha; cases ha
  | .dK _ _, k + 1, _, _, ⟨b, vs, f, h1, h2, h3, h5, h4⟩, a, ha => by
    rw [h2] at ha
    rcases List.mem_cons.mp ha with e | e
    · rw [e]; exact ⟨_, h3⟩
    · exact RtL.there h4 a e
  | .dT _ _, 0, _, _, ⟨h1, _⟩, a, ha => by rw [h1] at ha; cases ha
  | .dT _ _, k + 1, _, _, ⟨b, vs, f, h1, h2, h3, h5, h4⟩, a, ha => by
    rw [h2] at ha
    rcases List.mem_cons.mp ha with e | e
    · rw [e]; exact ⟨_, h3⟩
    · exact RtL.there h4 a e
  | .obj _ _ _, 0, _, _, ⟨h1, _⟩, a, ha => by rw [h1] at ha; cases ha
  | .obj _ _ _, k + 1, _, _, ⟨b, dx, l, f, h1, h2, h3, h5, h4⟩, a, ha => by
    rw [h2] at ha
    rcases List.mem_cons.mp ha with e | e
    · rw [e]; exact ⟨_, h3⟩
    · exact RtL.there h4 a e
theorem RtL.there : ∀ {ds : List D} {k : Nat} {vs : List V} {fp : List Addr}, RtL W ρ G H ds k vs fp → ∀ a ∈ fp, ∃ o, H a = some o
  | [], _, _, _, ⟨_, h⟩, a, ha => by rw [h] at ha; cases ha
  | _ :: _, _, _, _, ⟨v, ws, f1, f2, h1, h2, h3, h4⟩, a, ha => by
    rw [h2] at ha
    rcases List.mem_append.mp ha with e | e
    · exact Rt.there h3 a e
    · exact RtL.there h4 a e
end
/-- at depth nought all is read off the frozen part -/
theorem Rt.freeze0 : ∀ {d : D} {v : V} {fp : List Addr}, Rt W ρ G H d 0 v fp → fp = [] ∧ Rv W ρ G d v
  | .non, _, _, h => h
  | .bl _, _, _, h => h
  | .int _, _, _, h => h
  | .str _, _, _, h => h
  | .bx _, _, _, h => h
  | .tup _, _, _, h => h
  | .lst _, _, _, h => h
  | .dK _ _, _, _, h => h
  | .dT _ _, _, _, h => h
  | .obj _ _ _, _, _, h => h
theorem RtL.freeze0 : ∀ {ds : List D} {vs : List V} {fp : List Addr}, RtL W ρ G H ds 0 vs fp → RvL W ρ G ds vs
  | [], _, _, ⟨h, _⟩ => h
  | _ :: _, _, _, ⟨v, ws, f1, f2, h1, h2, h3, h4⟩ => ⟨v, ws, h1, h3.freeze0.2, RtL.freeze0 h4⟩
theorem RtL.nil0 : ∀ {ds : List D} {vs : List V} {fp : List Addr}, RtL W ρ G H ds 0 vs fp → fp = []
  | [], _, _, ⟨_, h⟩ => h
  | _ :: _, _, _, ⟨v, ws, f1, f2, h1, h2, h3, h4⟩ => by rw [h2, h3.freeze0.1, RtL.nil0 h4]; rfl
theorem Rt.of0 : ∀ {d : D} {v : V}, Rv W ρ G d v → Rt W ρ G H d 0 v []
  | .non, _, h => ⟨rfl, h⟩
  | .bl _, _, h => ⟨rfl, h⟩
  | .int _, _, h => ⟨rfl, h⟩
  | .str _, _, h => ⟨rfl, h⟩
  | .bx _, _, h => ⟨rfl, h⟩
  | .tup _, _, h => ⟨rfl, h⟩
  | .lst _, _, h => ⟨rfl, h⟩
  | .dK _ _, _, h => ⟨rfl, h⟩
  | .dT _ _, _, h => ⟨rfl, h⟩
  | .obj _ _ _, _, h => ⟨rfl, h⟩
theorem RtL.of0 : ∀ {ds : List D} {vs : List V}, RvL W ρ G ds vs → RtL W ρ G H ds 0 vs []
  | [], _, h => ⟨h, rfl⟩
  | _ :: _, _, ⟨v, ws, h1, h2, h3⟩ => ⟨v, ws, [], [], h1, rfl, Rt.of0 h2, RtL.of0 h3⟩
mutual
/-- a shallower tree: the lower cells are frozen -/
theorem Rt.weak : ∀ {d : D} {k j : Nat} {v : V} {fp : List Addr}, Rt W ρ G H d k v fp → j ≤ k → fp.Nodup → ∃ fp', fp'.Sublist fp ∧ ∀ {ρ' : Rho} {G' H' : Hp}, Ex G G' → RhoLe ρ ρ' → (∀ a ∈ fp', ∀ o, H a = some o → H' a = some o) → (∀ a ∈ fp, a ∉ fp' → ∀ o, H a = some o → G' a = some o) → Rt W ρ' G' H' d j v fp'
  | .non, _, _, _, _, ⟨h1, h⟩, _, _ => ⟨[], by simp, fun _ _ _ _ => ⟨rfl, h⟩⟩
  | .bl _, _, _, _, _, ⟨h1, h⟩, _, _ => ⟨[], by simp, fun _ _ _ _ => ⟨rfl, h⟩⟩
  | .int _, _, _, _, _, ⟨h1, h⟩, _, _ => ⟨[], by simp, fun _ _ _ _ => ⟨rfl, h⟩⟩
  | .str _, _, _, _, _, ⟨h1, h⟩, _, _ => ⟨[], by simp, fun _ _ _ _ => ⟨rfl, h⟩⟩
  | .bx _, _, _, _, _, ⟨h1, h⟩, _, _ => ⟨[], by simp, fun e r _ _ => ⟨rfl, Rv.mono e r h⟩⟩
  | .tup xs, k, j, v, fp, h, hj, nd => by
    cases j with
    | zero => exact ⟨[], by simp, fun {ρ' G' H'} e r _ f => ⟨rfl, Rt.freeze (d := .tup xs) (k := k) e r (fun a ha o q => f a ha (by simp) o q) h⟩⟩
    | succ j => cases k with
      | zero => omega
      | succ k =>
        obtain ⟨a, vs, h1, h2, h3⟩ := h
        obtain ⟨fp', s, f⟩ := RtL.weak h3 (Nat.le_of_succ_le_succ hj) nd
        exact ⟨fp', s, fun {ρ' G' H'} e r k1 k2 => ⟨a, vs, h1, e _ _ h2, f e r k1 k2⟩⟩
  | .lst xs, k, j, v, fp, h, hj, nd => by
    cases j with
    | zero => exact ⟨[], by simp, fun {ρ' G' H'} e r _ f => ⟨rfl, Rt.freeze (d := .lst xs) (k := k) e r (fun a ha o q => f a ha (by simp) o q) h⟩⟩
    | succ j => cases k with
      | zero => omega
      | succ k =>
        obtain ⟨a, vs, f0, h1, h0, h2, h3⟩ := h
        subst h0
        obtain ⟨na, nd⟩ := List.nodup_cons.mp nd
        obtain ⟨fp', s, f⟩ := RtL.weak h3 (Nat.le_of_succ_le_succ hj) nd
        exact ⟨a :: fp', s.cons_cons a, fun {ρ' G' H'} e r k1 k2 => ⟨a, vs, fp', h1, rfl, k1 a (by simp) _ h2, f e r (fun b hb => k1 b (by simp [hb])) fun b hb nb => k2 b (by simp [hb]) (by simp [nb]; rintro rfl; exact na hb)⟩⟩
  | .dK ks xs, k, j, v, fp, h, hj, nd => by
    cases j with
    | zero => exact ⟨[], by simp, fun {ρ' G' H'} e r _ f => ⟨rfl, Rt.freeze (d := .dK ks xs) (k := k) e r (fun a ha o q => f a ha (by simp) o q) h⟩⟩
    | succ j => cases k with
      | zero => omega
      | succ k =>
        obtain ⟨a, vs, f0, h1, h0, h2, h5, h3⟩ := h
        subst h0
        obtain ⟨na, nd⟩ := List.nodup_cons.mp nd
        obtain ⟨fp', s, f⟩ := RtL.weak h3 (Nat.le_of_succ_le_succ hj) nd
        exact ⟨a :: fp', s.cons_cons a, fun {ρ' G' H'} e r k1 k2 => ⟨a, vs, fp', h1, rfl, k1 a (by simp) _ h2, h5, f e r (fun b hb => k1 b (by simp [hb])) fun b hb nb => k2 b (by simp [hb]) (by simp [nb]; rintro rfl; exact na hb)⟩⟩
  | .dT ks xs, k, j, v, fp, h, hj, nd => by
    cases j with
    | zero => exact ⟨[], by simp, fun {ρ' G' H'} e r _ f => ⟨rfl, Rt.freeze (d := .dT ks xs) (k := k) e r (fun a ha o q => f a ha (by simp) o q) h⟩⟩
    | succ j => cases k with
      | zero => omega
      | succ k =>
        obtain ⟨a, vs, f0, h1, h0, h2, h5, h3⟩ := h
        subst h0
        obtain ⟨na, nd⟩ := List.nodup_cons.mp nd
        obtain ⟨fp', s, f⟩ := RtL.weak h3 (Nat.le_of_succ_le_succ hj) nd
        exact ⟨a :: fp', s.cons_cons a, fun {ρ' G' H'} e r k1 k2 => ⟨a, vs, fp', h1, rfl, k1 a (by simp) _ h2, h5, f e r (fun b hb => k1 b (by simp [hb])) fun b hb nb => k2 b (by simp [hb]) (by simp [nb]; rintro rfl; exact na hb)⟩⟩
  | .obj c fs xs, k, j, v, fp, h, hj, nd => by
    cases j with
    | zero => exact ⟨[], by simp, fun {ρ' G' H'} e r _ f => ⟨rfl, Rt.freeze (d := .obj c fs xs) (k := k) e r (fun a ha o q => f a ha (by simp) o q) h⟩⟩
    | succ j => cases k with
      | zero => omega
      | succ k =>
        obtain ⟨a, dx, vs, f0, h1, h0, h2, h5, h3⟩ := h
        subst h0
        obtain ⟨na, nd⟩ := List.nodup_cons.mp nd
        obtain ⟨fp', s, f⟩ := RtL.weak h3 (Nat.le_of_succ_le_succ hj) nd
        exact ⟨a :: fp', s.cons_cons a, fun {ρ' G' H'} e r k1 k2 => ⟨a, dx, vs, fp', h1, rfl, k1 a (by simp) _ h2, h5, f e r (fun b hb => k1 b (by simp [hb])) fun b hb nb => k2 b (by simp [hb]) (by simp [nb]; rintro rfl; exact na hb)⟩⟩
theorem RtL.weak : ∀ {ds : List D} {k j : Nat} {vs : List V} {fp : List Addr}, RtL W ρ G H ds k vs fp → j ≤ k → fp.Nodup → ∃ fp', fp'.Sublist fp ∧ ∀ {ρ' : Rho} {G' H' : Hp}, Ex G G' → RhoLe ρ ρ' → (∀ a ∈ fp', ∀ o, H a = some o → H' a = some o) → (∀ a ∈ fp, a ∉ fp' → ∀ o, H a = some o → G' a = some o) → RtL W ρ' G' H' ds j vs fp'
  | [], _, _, _, _, ⟨h1, h2⟩, _, _ => ⟨[], by simp, fun _ _ _ _ => ⟨h1, rfl⟩⟩
  | d :: ds, k, j, _, _, ⟨v, ws, f1, f2, h1, h2, h3, h4⟩, hj, nd => by
    subst h1 h2
    obtain ⟨n1, n2, n3⟩ := List.nodup_append.mp nd
    obtain ⟨g1, s1, e1⟩ := Rt.weak h3 hj n1
    obtain ⟨g2, s2, e2⟩ := RtL.weak h4 hj n2
    refine ⟨g1 ++ g2, s1.append s2, fun {ρ' G' H'} e r k1 k2 => ⟨v, ws, g1, g2, rfl, rfl, e1 e r (fun a ha => k1 a (by simp [ha])) fun a ha na => k2 a (by simp [ha]) ?_, e2 e r (fun a ha => k1 a (by simp [ha])) fun a ha na => k2 a (by simp [ha]) ?_⟩⟩
    · simp only [List.mem_append, not_or]
      exact ⟨na, fun z => n3 a ha a (s2.subset z) rfl⟩
    · simp only [List.mem_append, not_or]
      exact ⟨fun z => n3 a (s1.subset z) a ha rfl, na⟩
end
end
section
variable {W : Wr} {g g' g1 g2 : Gh} {S S' S1 S2 : Sto} {H H' H1 H2 : Hp} {ρ : Rho} {G : Hp}
theorem Rt.kid {i : Nat} {d : D} : ∀ {T : D} {k : Nat} {v : V} {fp : List Addr}, Rt W ρ G H T (k + 1) v fp → T.kids[i]? = some d → ∃ u, Kid W G H i T v d u
  | .tup xs, k, _, _, ⟨a, vs, h1, h2, h3⟩, e => by
    obtain ⟨u, _, _, _, e1, _⟩ := h3.get e
    exact ⟨u, a, vs, h1, h2, e, e1⟩
  | .lst xs, k, _, _, ⟨a, vs, f, h1, h0, h2, h3⟩, e => by
    obtain ⟨u, _, _, _, e1, _⟩ := h3.get e
    exact ⟨u, a, vs, h1, h2, e, e1⟩
  | .dK ks xs, k, _, _, ⟨a, vs, f, h1, h0, h2, h4, h3⟩, e => by
    obtain ⟨u, _, _, _, e1, _⟩ := h3.get e
    exact ⟨u, a, vs, h1, h2, e, e1⟩
  | .dT ks xs, k, _, _, ⟨a, vs, f, h1, h0, h2, h4, h3⟩, e => by
    obtain ⟨u, _, _, _, e1, _⟩ := h3.get e
    exact ⟨u, a, vs, h1, h2, e, e1⟩
  | .obj c fs xs, k, _, _, ⟨a, dx, vs, f, h1, h0, h2, h4, h3⟩, e => by
    obtain ⟨u, _, _, _, e1, _⟩ := h3.get e
    exact ⟨u, a, dx, vs, h1, h2, e, e1⟩
  | .non, _, _, _, _, e => by simp [D.kids] at e
  | .bl _, _, _, _, _, e => by simp [D.kids] at e
  | .int _, _, _, _, _, e => by simp [D.kids] at e
  | .str _, _, _, _, _, e => by simp [D.kids] at e
  | .bx _, _, _, _, _, e => by simp [D.kids] at e
theorem Rt.focus1 {i : Nat} {d : D} {u : V} : ∀ {T : D} {k : Nat} {v : V} {fp : List Addr}, Rt W ρ G H T (k + 1) v fp → Kid W G H i T v d u → ∃ pre f post, fp = pre ++ f ++ post ∧ Rt W ρ G H d k u f ∧
    ∀ {ρ' : Rho} {G' H' : Hp} {d' : D} {f' : List Addr}, Ex G G' → RhoLe ρ ρ' → (∀ a ∈ pre ++ post, ∀ o, H a = some o → H' a = some o) → Rt W ρ' G' H' d' k u f' → Rt W ρ' G' H' (T.withKids (T.kids.set i d')) (k + 1) v (pre ++ f' ++ post)
  | .tup xs, k, _, _, ⟨a, vs, h1, h2, h3⟩, ⟨b, ws, k1, k2, k3, k4⟩ => by
    have ea : a = b := by rw [h1] at k1; exact V.ref.inj k1
    subst ea
    rw [h2] at k2; cases k2
    obtain ⟨w, pre, f, post, e1, e2, e3, e4, _⟩ := h3.get k3
    rw [e1] at k4; cases k4
    exact ⟨pre, f, post, e2, e3, fun {ρ' G' H' d' f'} e r kp q => ⟨a, vs, h1, e _ _ h2, e4 e r kp q⟩⟩
  | .lst xs, k, _, _, ⟨a, vs, f0, h1, h0, h2, h3⟩, ⟨b, ws, k1, k2, k3, k4⟩ => by
    have ea : a = b := by rw [h1] at k1; exact V.ref.inj k1
    subst ea
    rw [h2] at k2; cases k2
    obtain ⟨w, pre, f, post, e1, e2, e3, e4, _⟩ := h3.get k3
    rw [e1] at k4; cases k4
    exact ⟨a :: pre, f, post, by rw [h0, e2]; rfl, e3, fun {ρ' G' H' d' f'} e r kp q => ⟨a, vs, pre ++ f' ++ post, h1, rfl, kp a (by simp) _ h2, e4 e r (fun b hb => kp b (by simp at hb ⊢; exact .inr hb)) q⟩⟩
  | .dK ks xs, k, _, _, ⟨a, vs, f0, h1, h0, h2, h5, h3⟩, ⟨b, ws, k1, k2, k3, k4⟩ => by
    have ea : a = b := by rw [h1] at k1; exact V.ref.inj k1
    subst ea
    rw [h2] at k2; cases k2
    obtain ⟨w, pre, f, post, e1, e2, e3, e4, _⟩ := h3.get k3
    rw [e1] at k4; cases k4
    exact ⟨a :: pre, f, post, by rw [h0, e2]; rfl, e3, fun {ρ' G' H' d' f'} e r kp q => ⟨a, vs, pre ++ f' ++ post, h1, rfl, kp a (by simp) _ h2, h5, e4 e r (fun b hb => kp b (by simp at hb ⊢; exact .inr hb)) q⟩⟩
  | .dT ks xs, k, _, _, ⟨a, vs, f0, h1, h0, h2, h5, h3⟩, ⟨b, ws, k1, k2, k3, k4⟩ => by
    have ea : a = b := by rw [h1] at k1; exact V.ref.inj k1
    subst ea
    rw [h2] at k2; cases k2
    obtain ⟨w, pre, f, post, e1, e2, e3, e4, _⟩ := h3.get k3
    rw [e1] at k4; cases k4
    exact ⟨a :: pre, f, post, by rw [h0, e2]; rfl, e3, fun {ρ' G' H' d' f'} e r kp q => ⟨a, vs, pre ++ f' ++ post, h1, rfl, kp a (by simp) _ h2, h5, e4 e r (fun b hb => kp b (by simp at hb ⊢; exact .inr hb)) q⟩⟩
  | .obj c fs xs, k, _, _, ⟨a, dx, vs, f0, h1, h0, h2, h5, h3⟩, ⟨b, dy, ws, k1, k2, k3, k4⟩ => by
    have ea : a = b := by rw [h1] at k1; exact V.ref.inj k1
    subst ea
    rw [h2] at k2; cases k2
    obtain ⟨w, pre, f, post, e1, e2, e3, e4, _⟩ := h3.get k3
    rw [e1] at k4; cases k4
    exact ⟨a :: pre, f, post, by rw [h0, e2]; rfl, e3, fun {ρ' G' H' d' f'} e r kp q => ⟨a, dx, vs, pre ++ f' ++ post, h1, rfl, kp a (by simp) _ h2, h5, e4 e r (fun b hb => kp b (by simp at hb ⊢; exact .inr hb)) q⟩⟩
  | .non, _, _, _, _, q => q.elim
  | .bl _, _, _, _, _, q => q.elim
  | .int _, _, _, _, _, q => q.elim
  | .str _, _, _, _, _, q => q.elim
  | .bx _, _, _, _, _, q => q.elim
/-- the tree at a path; another one in its place -/
theorem Rt.focus {d : D} {k' : Nat} {u : V} : ∀ {p : List Nat} {T : D} {k : Nat} {v : V} {fp : List Addr}, Rt W ρ G H T k v fp → Pt W G H p T k v d k' u → ∃ pre f post, fp = pre ++ f ++ post ∧ Rt W ρ G H d k' u f ∧
    ∀ {ρ' : Rho} {G' H' : Hp} {d' : D} {f' : List Addr}, Ex G G' → RhoLe ρ ρ' → (∀ a ∈ pre ++ post, ∀ o, H a = some o → H' a = some o) → Rt W ρ' G' H' d' k' u f' → Rt W ρ' G' H' (pathSet T p d') k v (pre ++ f' ++ post)
  | [], T, k, v, fp, h, ⟨h1, h2, h3⟩ => by
    subst h1 h2 h3
    exact ⟨[], fp, [], by simp, h, fun {ρ' G' H' d' f'} e r kp q => by simpa [pathSet] using q⟩
  | i :: p, T, k, v, fp, h, ⟨j, x, w, h1, h2, h3⟩ => by
    subst h1
    obtain ⟨pre, f, post, e1, e2, e3⟩ := h.focus1 h2
    obtain ⟨pre2, f2, post2, e4, e5, e6⟩ := e2.focus h3
    refine ⟨pre ++ pre2, f2, post2 ++ post, by rw [e1, e4]; simp, e5, fun {ρ' G' H' d' f'} e r kp q => ?_⟩
    have q2 := e6 e r (fun a ha => kp a (by simp at ha ⊢; rcases ha with z | z <;> simp [z])) q
    have q3 := e3 e r (fun a ha => kp a (by simp at ha ⊢; rcases ha with z | z <;> simp [z])) q2
    have e7 : pathSet T (i :: p) d' = T.withKids (T.kids.set i (pathSet x p d')) := by
      show (match T.kids[i]? with | some x => T.withKids (T.kids.set i (pathSet x p d')) | none => T) = _
      rw [h2.kids]
    rw [e7]
    simpa using q3
/-- what stands at a path is read off the heap -/
theorem Pt.read {d : D} {k k' : Nat} {T : D} {p : List Nat} {u v : V} {fp : List Addr} (e : Ex G H) (h : Rt W ρ G H T k v fp) (q : Pt W G H p T k v d k' u) : Rv W ρ H d u := by
  obtain ⟨pre, f, post, _, e2, _⟩ := h.focus q
  exact e2.read e
variable {T T1 T2 N : Addr → Prop}
theorem RK.read (R : Rg W g S H) : ∀ {a : Vd} {v : V} {fp : List Addr}, RK W g S H a v fp → Rv W g.r H a.2 v
  | (.vl l, d), v, _, ⟨_, h⟩ => Rv.mono (R.G_h l) (fun _ _ z => z) h
  | (.fr k l, d), v, _, h => Rt.read (R.G_h l) h
  | (.tn n p, d), v, _, ⟨_, b, a, k', h1, h2, h3⟩ => by
    obtain ⟨a', e1, e2⟩ := R.box n b h1
    rw [h2] at e1; cases e1
    exact Pt.read (R.G_h _) e2 h3
theorem RK.imm (R : Rg W g S H) {k : Kd} {d : D} {v : V} {fp : List Addr} (i : d.imm = true) (h : RK W g S H (k, d) v fp) : RK W g S H (.vl false, d) v [] := ⟨rfl, Rv.imm R.tup i (h.read R)⟩
theorem RK.norm (R : Rg W g S H) {a : Vd} {v : V} {fp : List Addr} (h : RK W g S H a v fp) : ∃ fp', fp'.Sublist fp ∧ RK W g S H (norm a) v fp' := by
  obtain ⟨k, d⟩ := a
  by_cases i : d.imm = true
  · have e : Z.norm (k, d) = (Kd.vl false, d) := if_pos i
    rw [e]
    exact ⟨[], by simp, h.imm R i⟩
  · have e : Z.norm (k, d) = (k, d) := if_neg i
    rw [e]
    exact ⟨fp, List.Sublist.refl _, h⟩
theorem RK.there : ∀ {a : Vd} {v : V} {fp : List Addr}, RK W g S H a v fp → ∀ b ∈ fp, ∃ o, H b = some o
  | (.vl l, d), v, _, ⟨h, _⟩, b, hb => by rw [h] at hb; cases hb
  | (.fr k l, d), v, _, h, b, hb => Rt.there h b hb
  | (.tn n p, d), v, _, ⟨h, _⟩, b, hb => by rw [h] at hb; cases hb
theorem Fre.sub {fp fp' : List Addr} (h : Fre g S N fp) (s : fp'.Sublist fp) : Fre g S N fp' := ⟨h.nd.sublist s, fun a ha => h.fr a (s.subset ha)⟩
theorem Fre.imp {N' : Addr → Prop} {fp : List Addr} (h : Fre g S N fp) (k : ∀ a ∈ fp, N a → N' a) : Fre g S N' fp := ⟨h.nd, fun a ha => let ⟨z1, z2, z3⟩ := h.fr a ha; ⟨z1, z2, k a ha z3⟩⟩
theorem Fre.nil : Fre g S N [] := ⟨List.nodup_nil, fun _ h => by cases h⟩
/-- nobody's cells stay so -/
theorem Fre.keep {fp : List Addr} (h : Gr T g S H g' S' H') (k : Fre g S N fp) (th : ∀ a ∈ fp, ∃ o, H a = some o) (nt : ∀ a ∈ fp, ¬ T a) : Fre g' S' N fp := by
  refine ⟨k.nd, fun a ha => ?_⟩
  obtain ⟨z1, z2, z3⟩ := k.fr a ha
  obtain ⟨o, ho⟩ := th a ha
  refine ⟨?_, fun z => ?_, z3⟩
  · cases e : g'.L a with
    | none => rfl
    | some u =>
      rcases h.lo a (by rw [e]; simp) with z | z | z | z
      · exact absurd z1 z
      · rw [ho] at z; cases z
      · exact absurd z.own z2
      · exact absurd z (nt a ha)
  · rcases h.own z with z | z | z
    · exact z2 z
    · rw [ho] at z; cases z
    · exact nt a ha z
theorem RK.keep (h : Gr T g S H g' S' H') : ∀ {a : Vd} {v : V} {fp : List Addr}, isTn a = false → (∀ b ∈ fp, ¬ Own g S b ∧ ¬ T b) → RK W g S H a v fp → RK W g' S' H' a v fp
  | (.vl l, d), v, _, _, _, ⟨e, q⟩ => ⟨e, Rv.mono (Gh.G_ex h l) h.r q⟩
  | (.fr k l, d), v, fp, _, nt, q => Rt.mono (Gh.G_ex h l) h.r (fun a ha o e => h.fr a o e (fun z => (nt a ha).1 z.own) (nt a ha).2) q
  | (.tn n p, d), v, _, i, _, _ => by cases i
/-- nothing has changed in the boxes -/
theorem RK.keepP (e : Ex H H') (h : Gr T g S H g' S H') : ∀ {a : Vd} {v : V} {fp : List Addr}, RK W g S H a v fp → RK W g' S H' a v fp
  | (.vl l, d), v, _, ⟨z, q⟩ => ⟨z, Rv.mono (Gh.G_ex h l) h.r q⟩
  | (.fr k l, d), v, fp, q => Rt.mono (Gh.G_ex h l) h.r (fun a _ o z => e a o z) q
  | (.tn n p, d), v, _, ⟨z, b, a, k', h1, h2, h3⟩ => ⟨z, b, a, k', h1, h.r n a h2, Pt.mono (Gh.G_ex h _) e h3⟩
end
end Z

namespace Z
open PySem L2
section
variable {W : Wr} {g g' g1 g2 : Gh} {S S' S1 S2 : Sto} {H H' H1 H2 : Hp} {T T1 T2 N : Addr → Prop}
theorem Rg.box_there (R : Rg W g S H) {n : Nat} {b : Bx} (l : Live S n b) : ∀ a ∈ g.fp n, ∃ o, H a = some o := by
  obtain ⟨a, _, h⟩ := R.box n b l
  exact h.there
/-- the heap goes on, the frozen parts too -/
theorem Rg.next (R : Rg W g S H) (e : Ex H H') {F L : Hp} (h1 : Ex g.F F) (h2 : Ex g.L L) (fl : Ex F L) (lh : Ex L H') (t : TupIn F H') (no : ∀ a, L a ≠ none → g.L a = none → ¬ Own g S a) : Rg W { g with F := F, L := L } S H' where
  fl := fl
  lh := lh
  tup := t
  box := fun n b l => by
    obtain ⟨a, e1, e2⟩ := R.box n b l
    refine ⟨a, e1, Rt.mono ?_ (fun _ _ z => z) (fun a _ o z => e a o z) e2⟩
    cases b.ln
    · exact h1
    · exact h2
  nd := R.nd
  dis := R.dis
  off := fun n b l a ha => by
    cases q : L a with
    | none => exact q
    | some o => exact absurd ⟨n, b, l, ha⟩ (no a (by rw [q]; simp) (R.off n b l a ha))
  rho := R.rho
theorem Gr.next (e : Ex H H') {F L : Hp} (h1 : Ex g.F F) (h2 : Ex g.L L) (fo : ∀ a, F a ≠ none → g.F a ≠ none ∨ H a = none ∨ T a) (lo : ∀ a, L a ≠ none → g.L a ≠ none ∨ H a = none ∨ T a) : Gr T g S H { g with F := F, L := L } S H' where
  f := h1
  l := h2
  r := fun _ _ z => z
  fr := fun a o z _ _ => e a o z
  fo := fun a z => by
    rcases fo a z with q | q | q
    · exact .inl q
    · exact .inr (.inl q)
    · exact .inr (.inr (.inr q))
  lo := fun a z => by
    rcases lo a z with q | q | q
    · exact .inl q
    · exact .inr (.inl q)
    · exact .inr (.inr (.inr q))
  oo := fun a z => .inl z
  lk := fun _ _ _ => ⟨.rfl, fun _ => rfl⟩
  len := Nat.le_refl _
/-- cells frozen -/
def Gh.frz (g : Gh) (H : Hp) (fs : List Addr) (l : Bool) : Gh := { g with
  F := if l then g.F else fun a => if a ∈ fs then H a else g.F a
  L := fun a => if a ∈ fs then H a else g.L a }
theorem Rg.frz (R : Rg W g S H) {fs : List Addr} (l : Bool) (fr : ∀ a ∈ fs, g.L a = none ∧ ¬ Own g S a) : Rg W (g.frz H fs l) S H ∧ Gr (· ∈ fs) g S H (g.frz H fs l) S H ∧ (∀ a ∈ fs, ∀ o, H a = some o → (g.frz H fs l).G l a = some o) ∧ (∀ a, a ∉ fs → (g.frz H fs l).L a = g.L a) := by
  have eF : ∀ a, (g.frz H fs false).F a = if a ∈ fs then H a else g.F a := fun _ => rfl
  have eL : ∀ a, (g.frz H fs l).L a = if a ∈ fs then H a else g.L a := fun _ => rfl
  have exL : Ex g.L (g.frz H fs l).L := fun a o e => by
    rw [eL]
    by_cases m : a ∈ fs
    · rw [(fr a m).1] at e; cases e
    · rw [if_neg m]; exact e
  have exF : Ex g.F (g.frz H fs l).F := by
    cases l
    · intro a o e
      rw [eF]
      by_cases m : a ∈ fs
      · have := R.fl a o e
        rw [(fr a m).1] at this; cases this
      · rw [if_neg m]; exact e
    · exact Ex.refl _
  have flE : Ex (g.frz H fs l).F (g.frz H fs l).L := by
    cases l
    · intro a o e
      rw [eF] at e
      rw [eL]
      by_cases m : a ∈ fs
      · rw [if_pos m] at e ⊢; exact e
      · rw [if_neg m] at e ⊢; exact R.fl a o e
    · exact R.fl.trans exL
  have lhE : Ex (g.frz H fs l).L H := fun a o e => by
    rw [eL] at e
    by_cases m : a ∈ fs
    · rw [if_pos m] at e; exact e
    · rw [if_neg m] at e; exact R.lh a o e
  refine ⟨?_, ?_, fun a ha o e => ?_, fun a ha => by rw [eL, if_neg ha]⟩
  · refine R.next (Ex.refl H) exF exL flE lhE (fun a xs e => exF _ _ (R.tup a xs e)) fun a h1 h2 => ?_
    by_cases m : a ∈ fs
    · exact (fr a m).2
    · have h3 : (g.frz H fs l).L a ≠ none := h1
      rw [eL, if_neg m] at h3
      exact absurd h2 h3
  · refine Gr.next (Ex.refl H) exF exL (fun a h1 => ?_) fun a h1 => ?_
    · cases l
      · have h3 : (g.frz H fs false).F a ≠ none := h1
        rw [eF] at h3
        by_cases m : a ∈ fs
        · exact .inr (.inr m)
        · rw [if_neg m] at h3; exact .inl h3
      · exact .inl h1
    · have h3 : (g.frz H fs l).L a ≠ none := h1
      rw [eL] at h3
      by_cases m : a ∈ fs
      · exact .inr (.inr m)
      · rw [if_neg m] at h3; exact .inl h3
  · cases l
    · show (g.frz H fs false).F a = some o
      rw [eF, if_pos ha]; exact e
    · show (g.frz H fs true).L a = some o
      rw [eL, if_pos ha]; exact e
/-- a tree made shallower -/
theorem Rg.wk (R : Rg W g S H) {l m : Bool} {d : D} {k j : Nat} {v : V} {f : List Addr} (h : Rt W g.r (g.G l) H d k v f) (nd : f.Nodup) (fr : ∀ a ∈ f, g.L a = none ∧ ¬ Own g S a) (hj : j ≤ k) (hl : (!l || m) = true) :
    ∃ g' f', f'.Sublist f ∧ Rg W g' S H ∧ Gr (· ∈ f) g S H g' S H ∧ Rt W g'.r (g'.G m) H d j v f' ∧ (∀ a, a ∉ f → g'.L a = g.L a) ∧ (∀ a ∈ f', g'.L a = none) ∧ g'.fp = g.fp ∧ g'.r = g.r := by
  obtain ⟨f', s, w⟩ := Rt.weak h hj nd
  have fr2 : ∀ a ∈ f.filter (fun a => decide (a ∉ f')), g.L a = none ∧ ¬ Own g S a := fun a ha => fr a (List.mem_filter.mp ha).1
  obtain ⟨R', gr, k1, k2⟩ := R.frz m fr2
  refine ⟨g.frz H (f.filter (fun a => decide (a ∉ f'))) m, f', s, R', gr.imp fun a ha => .inr (.inr (List.mem_filter.mp ha).1), ?_, fun a ha => k2 a fun z => ha (List.mem_filter.mp z).1, fun a ha => ?_, rfl, rfl⟩
  · refine w ?_ (fun _ _ z => z) (fun _ _ _ z => z) fun a ha na o e => k1 a (List.mem_filter.mpr ⟨ha, by simpa using na⟩) o e
    exact (R.G_le hl).trans (Gh.G_ex gr m)
  · rw [k2 a fun z => by simpa [ha] using (List.mem_filter.mp z).2]
    exact (fr a (s.subset ha)).1
/-- a new tuple -/
def Gh.tup (g : Gh) (p : Addr) (vs : List V) : Gh := { g with F := upd g.F p (.tup vs), L := upd g.L p (.tup vs) }
theorem Rg.tupN (R : Rg W g S H) {p : Addr} {vs : List V} (hp : H p = none) : Rg W (g.tup p vs) S (upd H p (.tup vs)) ∧ Gr T0 g S H (g.tup p vs) S (upd H p (.tup vs)) ∧ ∀ l, (g.tup p vs).G l p = some (.tup vs) := by
  have lp : g.L p = none := by
    cases e : g.L p with
    | none => rfl
    | some o => rw [R.lh p o e] at hp; cases hp
  have fp : g.F p = none := by
    cases e : g.F p with
    | none => rfl
    | some o => rw [R.fl p o e] at lp; cases lp
  have up : ∀ {A B : Hp}, Ex A B → Ex (upd A p (.tup vs)) (upd B p (.tup vs)) := fun {A B} e a o h => by
    by_cases m : a = p
    · subst m; rw [upd_same] at h ⊢; exact h
    · rw [upd_ne m] at h ⊢; exact e a o h
  refine ⟨R.next (Ex.new hp) (Ex.new fp) (Ex.new lp) (up R.fl) (up R.lh) (fun a xs e => ?_) fun a h1 h2 => ?_, Gr.next (Ex.new hp) (Ex.new fp) (Ex.new lp) (fun a h => ?_) fun a h => ?_, fun l => by cases l <;> exact upd_same⟩
  · by_cases m : a = p
    · subst m; rw [upd_same] at e ⊢; exact e
    · rw [upd_ne m] at e ⊢; exact R.tup a xs e
  · by_cases m : a = p
    · subst m
      rintro ⟨n, b, l, ha⟩
      obtain ⟨o, ho⟩ := R.box_there l a ha
      rw [hp] at ho; cases ho
    · rw [upd_ne m] at h1; exact absurd h2 h1
  · by_cases m : a = p
    · subst m; exact .inr (.inl hp)
    · rw [upd_ne m] at h; exact .inl h
  · by_cases m : a = p
    · subst m; exact .inr (.inl hp)
    · rw [upd_ne m] at h; exact .inl h
/-- a new object that is no tuple -/
def NoTup : HO → Prop
  | .tup _ => False
  | _ => True
theorem Rg.new (R : Rg W g S H) {p : Addr} {o : HO} (hp : H p = none) (nt : NoTup o) : Rg W g S (upd H p o) ∧ Gr T0 g S H g S (upd H p o) := by
  refine ⟨R.next (Ex.new hp) (Ex.refl _) (Ex.refl _) R.fl (R.lh.trans (Ex.new hp)) (fun a xs e => ?_) fun a h1 h2 => absurd h2 h1, Gr.next (Ex.new hp) (Ex.refl _) (Ex.refl _) (fun a h => .inl h) fun a h => .inl h⟩
  by_cases m : a = p
  · subst m; rw [upd_same] at e; cases e; exact nt.elim
  · rw [upd_ne m] at e; exact R.tup a xs e

theorem live_app {b c : Bx} {n : Nat} : Live (S ++ [some b]) n c ↔ Live S n c ∨ (n = S.length ∧ c = b) := by
  unfold Live
  by_cases h : n < S.length
  · rw [List.getElem?_append_left h]
    constructor
    · exact .inl
    · rintro (q | ⟨q, _⟩)
      · exact q
      · omega
  · rw [List.getElem?_append_right (by omega)]
    have e : S[n]? = none := List.getElem?_eq_none_iff.mpr (by omega)
    rw [e]
    constructor
    · intro q
      by_cases z : n = S.length
      · subst z; simp at q; exact .inr ⟨rfl, q.symm⟩
      · have : n - S.length ≠ 0 := by omega
        obtain ⟨m, hm⟩ := Nat.exists_eq_succ_of_ne_zero this
        rw [hm] at q; simp at q
    · rintro (q | ⟨rfl, rfl⟩)
      · cases q
      · simp
theorem Live.lt {n : Nat} {b : Bx} (h : Live S n b) : n < S.length := (List.getElem?_eq_some_iff.mp h).1
theorem Live.fun {n : Nat} {b c : Bx} (h : Live S n b) (k : Live S n c) : b = c := by
  unfold Live at h k; rw [h] at k; cases k; rfl
def Gh.box (g : Gh) (n : Nat) (a : Addr) (f : List Addr) : Gh := { g with r := fun m => if m = n then some a else g.r m, fp := fun m => if m = n then f else g.fp m }
theorem Rg.boxN (R : Rg W g S H) {b : Bx} {a : Addr} {f : List Addr} (h : Rt W g.r (g.G b.ln) H b.d b.dp (.ref a) f) (nd : f.Nodup) (fr : ∀ a ∈ f, g.L a = none ∧ ¬ Own g S a) (hk : b.lk = false) :
    Rg W (g.box S.length a f) (S ++ [some b]) H ∧ Gr (· ∈ f) g S H (g.box S.length a f) (S ++ [some b]) H := by
  have rl : RhoLe g.r (g.box S.length a f).r := fun n x e => by
    have := R.rho n x e
    show (if n = S.length then some a else g.r n) = some x
    rw [if_neg (by omega)]; exact e
  have fpo : ∀ {n c}, Live S n c → (g.box S.length a f).fp n = g.fp n := fun {n c} l => if_neg (Nat.ne_of_lt l.lt)
  have fpn : (g.box S.length a f).fp S.length = f := if_pos rfl
  constructor
  · refine ⟨R.fl, R.lh, R.tup, fun n c l => ?_, fun n c l => ?_, fun n m c e l1 l2 ne x hx hy => ?_, fun n c l x hx => ?_, fun n x e => ?_⟩
    · rcases live_app.mp l with l | ⟨rfl, rfl⟩
      · obtain ⟨x, e1, e2⟩ := R.box n c l
        exact ⟨x, rl _ _ e1, by rw [fpo l]; exact Rt.mono (Ex.refl _) rl (fun _ _ _ z => z) e2⟩
      · exact ⟨a, if_pos rfl, by rw [fpn]; exact Rt.mono (Ex.refl _) rl (fun _ _ _ z => z) h⟩
    · rcases live_app.mp l with l | ⟨rfl, rfl⟩
      · rw [fpo l]; exact R.nd n c l
      · rw [fpn]; exact nd
    · rcases live_app.mp l1 with q1 | ⟨q1, q1'⟩
      · rw [fpo q1] at hx
        rcases live_app.mp l2 with q2 | ⟨q2, q2'⟩
        · rw [fpo q2] at hy; exact R.dis n m c e q1 q2 ne x hx hy
        · rw [q2, fpn] at hy; exact (fr x hy).2 ⟨n, c, q1, hx⟩
      · rw [q1, fpn] at hx
        rcases live_app.mp l2 with q2 | ⟨q2, q2'⟩
        · rw [fpo q2] at hy; exact (fr x hx).2 ⟨m, e, q2, hy⟩
        · exact ne (q1.trans q2.symm)
    · rcases live_app.mp l with l | ⟨rfl, rfl⟩
      · rw [fpo l] at hx; exact R.off n c l x hx
      · rw [fpn] at hx; exact (fr x hx).1
    · rw [List.length_append]
      show n < S.length + 1
      have e' : (if n = S.length then some a else g.r n) = some x := e
      by_cases z : n = S.length
      · omega
      · rw [if_neg z] at e'; have := R.rho n x e'; omega
  · refine ⟨Ex.refl _, Ex.refl _, rl, fun x o e _ _ => e, fun x e => .inl e, fun x e => .inl e, fun x e => ?_, fun n c e => ⟨⟨fun l => live_app.mpr (.inl l), fun l => ?_⟩, fun l => fpo l⟩, by simp⟩
    · obtain ⟨n, c, l, e, hx⟩ := e
      rcases live_app.mp l with l | ⟨rfl, rfl⟩
      · rw [fpo l] at hx; exact .inl ⟨n, c, l, e, hx⟩
      · rw [fpn] at hx; exact .inr (.inr hx)
    · rcases live_app.mp l with l | ⟨rfl, rfl⟩
      · exact l
      · rw [hk] at e; cases e
theorem live_set {n m : Nat} {c : Bx} {o : Option Bx} (h : n < S.length) : Live (S.set n o) m c ↔ (m = n ∧ o = some c) ∨ (m ≠ n ∧ Live S m c) := by
  unfold Live
  by_cases e : m = n
  · subst e
    rw [List.getElem?_set_self h]
    constructor
    · intro q; exact .inl ⟨rfl, Option.some.inj q⟩
    · rintro (⟨_, q⟩ | ⟨q, _⟩)
      · rw [q]
      · exact absurd rfl q
  · rw [List.getElem?_set_ne (Ne.symm e)]
    constructor
    · intro q; exact .inr ⟨e, q⟩
    · rintro (⟨q, _⟩ | ⟨_, q⟩)
      · exact absurd q e
      · exact q
/-- a box is emptied: what it held is nobody's -/
theorem Rg.boxOut (R : Rg W g S H) {n : Nat} {b : Bx} (l : Live S n b) (hk : b.lk = false) : Rg W g (S.set n none) H ∧ Gr T0 g S H g (S.set n none) H ∧ (∀ a ∈ g.fp n, g.L a = none ∧ ¬ Own g (S.set n none) a ∧ OwnU g S a) := by
  have lo : ∀ {m c}, Live (S.set n none) m c → m ≠ n ∧ Live S m c := fun {m c} q => by
    rcases (live_set l.lt).mp q with ⟨_, z⟩ | z
    · cases z
    · exact z
  refine ⟨⟨R.fl, R.lh, R.tup, fun m c q => R.box m c (lo q).2, fun m c q => R.nd m c (lo q).2, fun m k c e q1 q2 => R.dis m k c e (lo q1).2 (lo q2).2, fun m c q => R.off m c (lo q).2, fun m a e => by rw [List.length_set]; exact R.rho m a e⟩,
    ⟨Ex.refl _, Ex.refl _, fun _ _ z => z, fun _ _ z _ _ => z, fun _ z => .inl z, fun _ z => .inl z, fun a ⟨m, c, q, e, ha⟩ => .inl ⟨m, c, (lo q).2, e, ha⟩, fun m c e => ⟨⟨fun q => (live_set l.lt).mpr (.inr ⟨fun z => ?_, q⟩), fun q => (lo q).2⟩, fun _ => rfl⟩, by rw [List.length_set]; exact Nat.le_refl _⟩,
    fun a ha => ⟨R.off n b l a ha, fun ⟨m, c, q, hm⟩ => R.dis m n c b (lo q).2 l (lo q).1 a hm ha, n, b, l, hk, ha⟩⟩
  subst z
  rw [Live.fun q l, hk] at e; cases e
/-- a box is written -/
def Gh.put (g : Gh) (n : Nat) (f : List Addr) : Gh := { g with fp := fun m => if m = n then f else g.fp m }
theorem Rg.boxSet (R : Rg W g S H) {n : Nat} {b : Bx} {d' : D} {a : Addr} {f' t : List Addr} (l : Live S n b) (hk : b.lk = false) (ha : g.r n = some a) (kp : ∀ x o, H x = some o → x ∉ g.fp n → H' x = some o)
    (tp : TupIn g.F H') (h : Rt W g.r (g.G b.ln) H' d' b.dp (.ref a) f') (nd : f'.Nodup) (fr : ∀ x ∈ f', x ∈ g.fp n ∨ x ∈ t) (ft : ∀ x ∈ t, g.L x = none ∧ ¬ Own g S x) :
    Rg W (g.put n f') (S.set n (some { b with d := d' })) H' ∧ Gr (· ∈ t) g S H (g.put n f') (S.set n (some { b with d := d' })) H' := by
  have fo : ∀ {m}, m ≠ n → (g.put n f').fp m = g.fp m := fun {m} z => if_neg z
  have fn : (g.put n f').fp n = f' := if_pos rfl
  have noF : ∀ x, x ∈ f' → g.L x = none := fun x hx => (fr x hx).elim (fun z => R.off n b l x z) fun z => (ft x z).1
  have lh : Ex g.L H' := fun x o e => kp x o (R.lh x o e) fun z => by rw [R.off n b l x z] at e; cases e
  constructor
  · refine ⟨R.fl, lh, tp, fun m c q => ?_, fun m c q => ?_, fun m k c e q1 q2 ne x hx hy => ?_, fun m c q x hx => ?_, fun m x e => by rw [List.length_set]; exact R.rho m x e⟩
    · rcases (live_set l.lt).mp q with ⟨rfl, z⟩ | ⟨z1, z2⟩
      · have := Option.some.inj z; subst this
        exact ⟨a, ha, by rw [fn]; exact h⟩
      · obtain ⟨x, e1, e2⟩ := R.box m c z2
        exact ⟨x, e1, by rw [fo z1]; exact Rt.mono (Ex.refl _) (fun _ _ w => w) (fun y hy o e => kp y o e fun w => R.dis m n c b z2 l z1 y hy w) e2⟩
    · rcases (live_set l.lt).mp q with ⟨rfl, z⟩ | ⟨z1, z2⟩
      · rw [fn]; exact nd
      · rw [fo z1]; exact R.nd m c z2
    · have key : ∀ {k e}, k ≠ n → Live S k e → ∀ x ∈ g.fp k, x ∉ f' := fun {k e} kn le x hx hx' => by
        rcases fr x hx' with z | z
        · exact R.dis k n e b le l kn x hx z
        · exact (ft x z).2 ⟨k, e, le, hx⟩
      rcases (live_set l.lt).mp q1 with ⟨z1, _⟩ | ⟨z1, z2⟩
      · rcases (live_set l.lt).mp q2 with ⟨w1, _⟩ | ⟨w1, w2⟩
        · exact ne (z1.trans w1.symm)
        · rw [z1, fn] at hx; rw [fo w1] at hy; exact key w1 w2 x hy hx
      · rcases (live_set l.lt).mp q2 with ⟨w1, _⟩ | ⟨w1, w2⟩
        · rw [fo z1] at hx; rw [w1, fn] at hy; exact key z1 z2 x hx hy
        · rw [fo z1] at hx; rw [fo w1] at hy; exact R.dis m k c e z2 w2 ne x hx hy
    · rcases (live_set l.lt).mp q with ⟨rfl, z⟩ | ⟨z1, z2⟩
      · rw [fn] at hx; exact noF x hx
      · rw [fo z1] at hx; exact R.off m c z2 x hx
  · refine ⟨Ex.refl _, Ex.refl _, fun _ _ z => z, fun x o e no _ => kp x o e fun z => no ⟨n, b, l, hk, z⟩, fun _ z => .inl z, fun _ z => .inl z, fun x z => ?_, fun m c e => ⟨⟨fun q => (live_set l.lt).mpr (.inr ⟨fun z => ?_, q⟩), fun q => ?_⟩, fun q => fo fun z => ?_⟩, by rw [List.length_set]; exact Nat.le_refl _⟩
    · obtain ⟨m, c, q, e, hx⟩ := z
      rcases (live_set l.lt).mp q with ⟨rfl, z⟩ | ⟨z1, z2⟩
      · rw [fn] at hx
        rcases fr x hx with w | w
        · exact .inl ⟨m, b, l, hk, w⟩
        · exact .inr (.inr w)
      · rw [fo z1] at hx; exact .inl ⟨m, c, z2, e, hx⟩
    · subst z; rw [Live.fun q l, hk] at e; cases e
    · rcases (live_set l.lt).mp q with ⟨_, z⟩ | ⟨_, z⟩
      · have := Option.some.inj z; subst this
        have e' : b.lk = true := e
        rw [hk] at e'; cases e'
      · exact z
    · subst z; rw [Live.fun q l, hk] at e; cases e
/-- a region of one's own: all that stands is lent -/
def Gh.own (g : Gh) (H : Hp) : Gh := ⟨g.F, H, fun _ => none, fun _ => []⟩
theorem Rg.own (R : Rg W g S H) : Rg W (g.own H) [] H := by
  have nl : ∀ {n b}, ¬ Live [] n b := fun {n b} l => by simp [Live] at l
  exact ⟨R.fl.trans R.lh, Ex.refl _, R.tup, fun n b l => absurd l nl, fun n b l => absurd l nl, fun n m b c l => absurd l nl, fun n b l => absurd l nl, fun n a e => by cases e⟩
def Gh.back (g k : Gh) : Gh := { g with F := k.F, L := fun a => match k.F a with | some o => some o | none => g.L a }
theorem Rg.back (R : Rg W g S H) {k : Gh} {S' : Sto} (R' : Rg W k S' H') (h : Gr T0 (g.own H) [] H k S' H') : Rg W (g.back k) S H' ∧ Gr T0 g S H (g.back k) S H' ∧ Ex H H' ∧ Ex (g.back k).L k.L := by
  have nO : ∀ a, ¬ OwnU (g.own H) [] a := fun a ⟨n, b, l, _⟩ => by simp [Live] at l
  have e : Ex H H' := fun a o z => h.fr a o z (nO a) (fun q => q)
  have eL : ∀ a, (g.back k).L a = match k.F a with | some o => some o | none => g.L a := fun _ => rfl
  have exL : Ex g.L (g.back k).L := fun a o z => by
    rw [eL]
    cases q : k.F a with
    | none => exact z
    | some u =>
      have z1 := e a o (R.lh a o z)
      have z2 := R'.lh a u (R'.fl a u q)
      rw [z1] at z2; exact z2.symm
  have flE : Ex k.F (g.back k).L := fun a o z => by rw [eL, z]
  have LK : Ex (g.back k).L k.L := fun a o z => by
    rw [eL] at z
    cases q : k.F a with
    | some u => rw [q] at z; cases z; exact R'.fl a _ q
    | none =>
      rw [q] at z
      exact h.l a o (R.lh a o z)
  have new : ∀ a, k.F a ≠ none → g.F a ≠ none ∨ H a = none := fun a z => by
    rcases h.fo a z with q | q | q | q
    · exact .inl q
    · exact .inr q
    · exact absurd q (nO a)
    · exact q.elim
  have newL : ∀ a, (g.back k).L a ≠ none → g.L a ≠ none ∨ H a = none := fun a z => by
    rw [eL] at z
    cases q : k.F a with
    | none => rw [q] at z; exact .inl z
    | some u =>
      rcases new a (by rw [q]; simp) with w | w
      · cases w2 : g.F a with
        | none => exact absurd w2 w
        | some o => exact .inl (by rw [R.fl a o w2]; simp)
      · exact .inr w
  refine ⟨R.next e (show Ex g.F k.F from h.f) exL flE (LK.trans R'.lh) R'.tup fun a h1 h2 => ?_, Gr.next e h.f exL (fun a z => ?_) fun a z => ?_, e, LK⟩
  · rintro ⟨n, b, l, ha⟩
    rcases newL a h1 with q | q
    · exact q h2
    · obtain ⟨o, ho⟩ := R.box_there l a ha
      rw [ho] at q; cases q
  · rcases new a z with q | q
    · exact .inl q
    · exact .inr (.inl q)
  · rcases newL a z with q | q
    · exact .inl q
    · exact .inr (.inl q)
end
end Z

namespace L2
open PySem PySem.Spec PyProof.Rows TL
section
variable {X : Cx}
theorem countP_eqU {y : V} : ∀ {zs : List V} {us : List Value}, Vals zs us → zs.all flatV = true → us.countP (eqU y) = zs.countP (fun z => eqV z y)
  | _, _, .nil, _ => rfl
  | _, _, .cons r t, f => by
    rw [List.all_cons, Bool.and_eq_true] at f
    rw [List.countP_cons, List.countP_cons, countP_eqU t f.2, eqU_of r f.1]
def rCntF (K : PySem.W.Frag) : V → List V → Hp → VK → Prop := fun x xs H Q => ∃ (p : Addr) (ys : List V) (y : V), x = .ref p ∧ xs = [y] ∧ SqL K H p ys ∧ flatV y = true ∧ ys.all flatV = true ∧ Q (.int (ys.countP (fun z => eqV z y) : Nat)) H
theorem mt_lcountF : MtR X "list.count" (rCntF X.K) := by
  intro pins s σ H x xs v us Q I rx rxs h
  obtain ⟨p, ys, y, rfl, rfl, hs, fy, fys, q⟩ := h
  cases rx
  obtain ⟨uy, rfl, ry⟩ := rxs.one
  obtain ⟨its, rv, ⟨⟨cls, dd, data, sl⟩, n, ho, hc, hdn, hd⟩, hlen⟩ := I.list hs
  simp only at hc hd
  subst hc hd
  refine call_meets PySem.F.slot_list_count ⟨_, ho, rfl⟩ PySem.F.entry_list_count (PySem.F.args_list_count_2 _ _)
    (SeqAt.list_countAt p its.toArray n dd sl uy (eqU y)) ⟨ho, fun u' hu' => mem_eqAt ry fy rv fys u' (by simpa using hu'), ?_⟩
  refine ⟨.int (ys.countP (fun z => eqV z y) : Nat), H, I.tok _, ⟨s.toks, ?_⟩, q⟩
  show Value.int ((its.toArray.toList.countP (eqU y) : Nat) : Int) s.toks = Value.int ((ys.countP (fun z => eqV z y) : Nat) : Int) s.toks
  rw [show its.toArray.toList.countP (eqU y) = ys.countP (fun z => eqV z y) from countP_eqU rv fys]
def rRemF : V → List V → Hp → VK → Prop := fun x xs H Q => ∃ (l : Addr) (ys : List V) (y : V) (j : Nat) (z : V), x = .ref l ∧ xs = [y] ∧ H l = some (.lst ys) ∧ flatV y = true ∧ ys.all flatV = true ∧ ys[j]? = some z ∧ eqV z y = true ∧
  (∀ (m : Nat) (z' : V), m < j → ys[m]? = some z' → eqV z' y = false) ∧ Q .non (upd H l (.lst (ys.eraseIdx j)))
theorem mt_removeF : MtM X "list.remove" rRemF := by
  intro pins s σ H x xs v us Q I rx rxs h
  obtain ⟨l, ys, y, j, z, rfl, rfl, hH, fy, fys, hz, hzj, hno, q⟩ := h
  cases rx
  obtain ⟨uy, rfl, ry⟩ := rxs.one
  obtain ⟨z0, its, n, r, hl, e⟩ := I.lstM hH
  obtain ⟨u, hu, ru⟩ := r.get hz
  obtain ⟨hjl, hje⟩ := List.getElem?_eq_some_iff.mp hu
  have hvl := r.length
  refine call_meets PySem.F.slot_list_remove ⟨_, e, rfl⟩ PySem.F.entry_list_remove (PySem.F.args_list_remove_2 _ _)
    (SeqAt.list_removeAt l its.toArray n none #[] uy (eqU y) j (by simpa using hjl) ?_ ?_ (by rw [List.size_toArray]; omega)) ⟨e, fun u' hu' => mem_eqAt ry fy r fys u' (by simpa using hu'), ?_⟩
  · have e1 : its.toArray[j] = u := by simpa using hje
    rw [e1, eqU_of ru (flat_at fys hz)]
    exact hzj
  · intro m hm hmj
    have hml : m < its.length := by simpa using hm
    have hmy : m < ys.length := by omega
    have hy' : ys[m]? = some ys[m] := List.getElem?_eq_getElem hmy
    obtain ⟨u2, hu2, ru2⟩ := r.get hy'
    obtain ⟨_, hme⟩ := List.getElem?_eq_some_iff.mp hu2
    have e1 : its.toArray[m] = u2 := by simpa using hme
    rw [e1, eqU_of ru2 (flat_at fys hy')]
    exact hno m _ hmj hy'
  · refine ⟨.non, _, I.lset (its' := its.eraseIdx j) (t' := s.toks) hH e ?_ (r.eraseIdx j) ?_, rfl, q⟩
    · show its.toArray.eraseIdxIfInBounds j = (its.eraseIdx j).toArray
      rw [List.eraseIdxIfInBounds_toArray]
    · have z2 := len_erase ys j
      omega
/-- sorted(d), ints, any number of them -/
theorem call_sortedDIA (hcalm : X.calm = true) : CallR X (.builtin "sorted") (fun xs H Q => ∃ (a : Addr) (kvs : List (Key × V)) (ks : List Int), xs = [.ref a] ∧ Rd H a (.dK kvs) ∧ kvs.map (·.1) = ks.map Sum.inl ∧
    ∀ (ys : List Int) (p : Addr), ys.Perm ks → ys.Pairwise (· ≤ ·) → H p = none → Q (.ref p) (upd H p (.lst (ys.map V.int)))) := by
  intro pins s σ H xs us Q I r q
  obtain ⟨a, kvs, ks, ex, hd, hks, q⟩ := q
  subst ex
  obtain ⟨u, eu, rx⟩ := vals1 r
  subst eu
  cases rx
  obtain ⟨z, lo, vs, rel, dd⟩ := dk_rd I.hok hd
  obtain ⟨ep, hat⟩ := dd.dictAt
  have hkeys : vs.map (·.1) = ks.map Sum.inl := rel.keys.symm.trans hks
  have hl : vs.length = ks.length := by
    have e := congrArg List.length hkeys
    rw [List.length_map, List.length_map] at e
    exact e
  have h16 : vs.length ≤ sizeLine := by rw [← rel.length]; exact z
  refine Calls.call_function_entry PyProof.Rows.kind_sorted PyProof.Rows.plain_sorted PyProof.Rows.entry_sorted (PyProof.Rows.args_sorted1 _) ?_
  unfold Builtin.«sorted»
  refine wpAny_bind (m := checkCount "sorted" 1 1 _) (wpAny_pure ?_)
  refine wpAny_bind (PySem.W.kdu_collect (A := X.A.in1) (PySem.W.kdl_dict (knd := mixKind X.prog X.w) (kvs := vs) (ep := ep) lo) (I.ok.hd hcalm) hat h16 fun h' tk acc hk hacc => ?_)
  have hal : acc.toList.length = ks.length := by rw [Array.length_toList, hacc.1, hl]
  have hS : IntsAre acc.toList ks := ints_each hal fun j v e => by
    obtain ⟨k, x, e1, e2⟩ := hacc.2 j v (by rw [← Array.getElem?_toList]; exact e)
    have e3 : (vs.map (·.1))[j]? = some k := by rw [List.getElem?_map, e1]; rfl
    rw [hkeys, List.getElem?_map] at e3
    cases e4 : ks[j]? with
    | none => rw [e4] at e3; cases e3
    | some y =>
      rw [e4] at e3
      have e5 : Sum.inl y = k := Option.some.inj e3
      subst e5
      rcases keyIs_shape (show keyIs (Sum.inl y) v = true from e2) with ⟨i, t, ek, ev⟩ | ⟨z, t, ek, ev⟩
      · cases ek
        exact ⟨y, t, rfl, ev⟩
      · cases ek
  have I1 : Inv X pins σ H { s with heap := h', toks := tk } := I.kept hk
  have hz : acc.toList.length ≤ sizeLine := by rw [hal, ← hl]; exact h16
  refine wpAny_bind (wpAny_newList ?_ hz)
  have hoL : (h'.push (seqObj "list" acc.toList.toArray 0)).get? h'.objs.size = some (seqObj "list" acc.toList.toArray 0) := Heap.get?_push_size _ rfl
  show wpAny _ _ _ _ _ { s with heap := h'.push (seqObj "list" acc.toList.toArray 0), toks := tk }
  refine wpAny_bind (wpAny_holding (wpAny_call_entry PyProof.Rows.slot_list_sort ⟨_, hoL, rfl⟩ PyProof.Rows.entry_list_sort
    (SrtO.list_sort_ord (s := { s with heap := h'.push (seqObj "list" acc.toList.toArray 0), toks := tk }) SrtO.swo_int hoL hz (fun h2 => SrtO.ints_sortable hS h2) fun out g1 g2 => ⟨_, rfl, ?_⟩) (PyProof.Rows.args_list_sort _)))
  obtain ⟨k1, k2, k3⟩ := SrtO.ints_out hS g1 g2
  obtain ⟨e', he'⟩ := PyProof.Rows.sortedHeap_at (vs := acc.toList) (out := out.toArray) hoL
  have hlen : ((out.map SrtO.iv).map V.int).length ≤ sizeLine := by
    rw [List.length_map, k2.length_eq, ← hal]
    exact hz
  refine wpAny_pure ⟨_, rfl, .ref h'.objs.size, upd H h'.objs.size (.lst ((out.map SrtO.iv).map V.int)), I1.laid (t' := tk) (fun b u e => ?_) (Nat.le_refl _)
    (show ObjOk X.prog X.w _ _ _ (.lst ((out.map SrtO.iv).map V.int)) from ⟨hlen, out, e', vals_of_ints k1, he'⟩), rfl, q _ _ k2 k3 (I1.hok.fresh (Nat.le_refl _))⟩
  have hb : b < h'.objs.size := Heap.lt_size e
  rw [PyProof.Rows.sortedHeap_old (Nat.ne_of_lt hb) (by rw [size_push']; exact Nat.lt_succ_of_lt hb)]
  exact Heap.get?_push_of_some _ e
theorem fold_arr (l : List Nat) : ∀ (m : Nat) (a : Array Nat), ((List.replicate m l.toArray).foldl (· ++ ·) a).toList = a.toList ++ (List.replicate m l).flatten
  | 0, a => by simp
  | m + 1, a => by
    rw [List.replicate_succ, List.replicate_succ, List.foldl_cons, fold_arr l m, List.flatten_cons, Array.toList_append, List.append_assoc]
theorem mul_tl (x : Str) {n : Int} (h : 0 ≤ n) : Txt.mul x n = ⟨(List.replicate n.toNat (tl x)).flatten.toArray⟩ := by
  obtain ⟨⟨l⟩⟩ := x
  refine ext_tl ?_
  show _ = (List.replicate n.toNat l).flatten
  unfold Txt.mul
  by_cases h1 : n < 1
  · rw [if_pos h1, show n.toNat = 0 by omega]; rfl
  · rw [if_neg h1]
    by_cases h2 : (n == 1 || (⟨⟨l⟩⟩ : Str).length == 0) = true
    · rw [if_pos h2]
      rw [Bool.or_eq_true] at h2
      rcases h2 with h2 | h2
      · have : n = 1 := by simpa using h2
        subst this
        show l = (List.replicate 1 l).flatten
        simp
      · have h3 : l.length = 0 := eq_of_beq h2
        have : l = [] := List.eq_nil_of_length_eq_zero h3
        subst this
        show [] = _
        exact (List.flatten_eq_nil_iff.mpr fun a ha => (List.eq_of_mem_replicate ha)).symm
    · rw [if_neg h2]
      have := fold_arr l n.toNat #[]
      exact this
def rMulS : R2 := fun x y H Q => ∃ (z : Str) (k : Int), x = .str z ∧ y = .int k ∧ 0 ≤ k ∧ k ≤ 1000 ∧ z.length ≤ 1000 ∧ Q (.str ⟨(List.replicate k.toNat (tl z)).flatten.toArray⟩) H
theorem op_mulS : OpR X (binaryOp .Mult) rMulS := by
  intro pins s σ H x y v u Q I rx ry h
  obtain ⟨z, k, rfl, rfl, h0, h1, h2, q⟩ := h
  obtain ⟨t, rfl⟩ := rx
  obtain ⟨t2, rfl⟩ := ry
  refine PySem.SB.mul (n := k) ⟨?_, fun g1 g2 => ?_, fun g1 g2 => ?_⟩ fun t' j => ⟨.str (Txt.mul z k), H, I.tok _, ⟨_, rfl⟩, by rw [mul_tl z h0]; exact q⟩
  · rw [decide_eq_false (by omega), decide_eq_false (by omega)] <;> rfl
  · have : (1000 : Int) ≤ (2 ^ 63 - 1) / k := by
      refine Int.le_ediv_of_mul_le (by omega) ?_
      omega
    omega
  · have : z.length * k.toNat ≤ 1000 * 1000 := Nat.mul_le_mul h2 (by omega)
    show decide (z.length * k.toNat > sizeLine) = false
    refine decide_eq_false ?_
    rw [sizeLine_eq]
    omega
end
end L2

namespace Z
open PySem L2 PySem.Spec PyProof.Rows
section
variable {W : Wr} {g g' g1 g2 : Gh} {S S' S1 S2 : Sto} {H H' H1 H2 : Hp} {T T1 T2 N : Addr → Prop} {X : Cx} {v u : V} {f f1 f2 : List Addr} {Q : VK}

def uO (X : Cx) (op : Value → Value → Sem Value) : R2 := fun x y H Q => ∀ (pins : List (Addr × Obj)) (s : Shared) (σ : L2.St) (v u : Value), Inv X pins σ H s → RelV x v → RelV y u → wpAny (model X.prog X.w) X.A (op v u) (EP X pins σ Q) X.xe s
theorem uO_ok {op : Value → Value → Sem Value} : OpR X op (uO X op) := fun pins s σ H x y v u Q I r1 r2 h => h pins s σ v u I r1 r2
theorem uO_of {op : Value → Value → Sem Value} {r : R2} (h : OpR X op r) {x y : V} (q : r x y H Q) : uO X op x y H Q := fun pins s σ v u I r1 r2 => h pins s σ H x y v u Q I r1 r2 q
def uC (X : Cx) (f : Value) : List V → Hp → VK → Prop := fun xs H Q => ∀ (pins : List (Addr × Obj)) (s : Shared) (σ : L2.St) (us : List Value), Inv X pins σ H s → Vals xs us → wpAny (model X.prog X.w) X.A (call f us) (EP X pins σ Q) X.xe s
theorem uC_ok {f : Value} : CallR X f (uC X f) := fun pins s σ H xs us Q I r h => h pins s σ us I r
theorem uC_of {f : Value} {r : List V → Hp → VK → Prop} (h : CallR X f r) {xs : List V} (q : r xs H Q) : uC X f xs H Q := fun pins s σ us I r1 => h pins s σ H xs us Q I r1 q
def uI (X : Cx) : R2 := fun x y H Q => ∀ (value slice : Expr) (pins : List (Addr × Obj)) (s : Shared) (σ : L2.St) (v u : Value), Inv X pins σ H s → RelV x v → RelV y u → subscripted slice false v u = operate [v, u] (getItem v u) → wpAny (model X.prog X.w) X.A (subscriptTail value slice v u) (EP X pins σ Q) X.xe s
theorem uI_ok : IxR X (uI X) := fun value slice pins s σ H x y v u Q I r1 r2 h hs => h value slice pins s σ v u I r1 r2 hs
theorem uI_of {r : R2} (h : IxR X r) {x y : V} (q : r x y H Q) : uI X x y H Q := fun value slice pins s σ v u I r1 r2 hs => h value slice pins s σ H x y v u Q I r1 r2 q hs

/-- what is wanted of a result: f, the cells of the operands -/
def Po (W : Wr) (g : Gh) (S : Sto) (H : Hp) (f : List Addr) (a : Vd) (Q : VK) : Prop := ∀ (g' : Gh) (H' : Hp) (v : V) (fp : List Addr), Rg W g' S H' → Gr (· ∈ f) g S H g' S H' → Ex H H' → RK W g' S H' a v fp → Fre g' S (fun x => x ∈ f ∨ H x = none) fp → Q v H'
theorem Po.val {d : D} (R : Rg W g S H) (p : Po W g S H f (.vl false, d) Q) (h : Rv W g.r g.F d v) : Q v H := p g H v [] R Gr.refl (Ex.refl H) ⟨rfl, h⟩ Fre.nil
theorem Po.int {i : Int} (R : Rg W g S H) (p : Po W g S H f (.vl false, .int i) Q) : Q (.int i) H := p.val R rfl
theorem Po.bl {i : Bool} (R : Rg W g S H) (p : Po W g S H f (.vl false, .bl i) Q) : Q (.bl i) H := p.val R rfl
theorem Po.str {i : Str} (R : Rg W g S H) (p : Po W g S H f (.vl false, .str i) Q) : Q (.str i) H := p.val R rfl

theorem rk_int (R : Rg W g S H) {k : Kd} {i : Int} (h : RK W g S H (k, .int i) v f) : v = .int i := h.read R
theorem rk_str (R : Rg W g S H) {k : Kd} {i : Str} (h : RK W g S H (k, .str i) v f) : v = .str i := h.read R
theorem rk_bl (R : Rg W g S H) {k : Kd} {i : Bool} (h : RK W g S H (k, .bl i) v f) : v = .bl i := h.read R
theorem rk_non (R : Rg W g S H) {k : Kd} (h : RK W g S H (k, .non) v f) : v = .non := h.read R

theorem fre_T (h : Fre g S N f) : ∀ a ∈ f, g.L a = none ∧ ¬ Own g S a := fun a ha => ⟨(h.fr a ha).1, (h.fr a ha).2.1⟩
theorem RvL.sq {a : Addr} {vs : List V} (h : H a = some (.lst vs)) {K : PySem.W.Frag} : SqL K H a vs := .inl (.inl h)
theorem TupV.sq {a : Addr} {vs : List V} (h : H a = some (.tup vs)) {K : PySem.W.Frag} : SqT K H a vs := .inl (.inl h)
/-- a list's or tuple's items, kept elsewhere -/
theorem lst_rk (R : Rg W g S H) {k : Kd} {xs : List D} {l : Bool} (h : RK W g S H (k, .lst xs) v f) (fr : Fre g S N f) (e : settle S k xs = some l) :
    ∃ a vs g', v = .ref a ∧ SqL W.K H a vs ∧ Rg W g' S H ∧ Gr (· ∈ f) g S H g' S H ∧ RvL W g'.r (g'.G l) xs vs := by
  unfold settle at e
  by_cases i : immL xs = true
  · rw [if_pos i] at e; cases e
    obtain ⟨a, vs, e1, e2, e3⟩ : Rv W g.r H (.lst xs) v := h.read R
    exact ⟨a, vs, g, e1, e2, R, Gr.refl, RvL.imm R.tup i e3⟩
  · rw [if_neg i] at e
    cases k with
    | vl l' =>
      cases e
      obtain ⟨_, a, vs, e1, e2, e3⟩ := h
      exact ⟨a, vs, g, e1, ex_l (R.G_h _) e2, R, Gr.refl, e3⟩
    | fr j l' =>
      cases e
      obtain ⟨g', f', s, R', gr, h', _⟩ := R.wk (j := 0) (m := l) h fr.nd (fre_T fr) (Nat.zero_le _) (by cases l <;> rfl)
      obtain ⟨_, a, vs, e1, e2, e3⟩ := h'
      exact ⟨a, vs, g', e1, ex_l (R'.G_h _) e2, R', gr, e3⟩
    | tn n p =>
      obtain ⟨_, b, a, k', h1, h2, h3⟩ := h
      have h1' : S[n]? = some (some b) := h1
      simp only [h1'] at e
      by_cases q : p.length + 1 < b.dp
      · rw [if_pos q] at e; cases e
      · rw [if_neg q] at e; cases e
        obtain ⟨a', e1, e2⟩ := R.box n b h1
        rw [h2] at e1; cases e1
        obtain ⟨_, fx, _, _, e3, _⟩ := e2.focus h3
        have hk := h3.len
        cases k' with
        | zero =>
          obtain ⟨_, a, vs, q1, q2, q3⟩ := e3
          exact ⟨a, vs, g, q1, ex_l (R.G_h _) q2, R, Gr.refl, q3⟩
        | succ k' =>
          have : k' = 0 := by omega
          subst this
          obtain ⟨a, vs, f0, q1, q2, q3, q4⟩ := e3
          exact ⟨a, vs, g, q1, RvL.sq q3, R, Gr.refl, RtL.freeze0 q4⟩
theorem dK_rk (R : Rg W g S H) {k : Kd} {ks : List Key} {xs : List D} {l : Bool} (h : RK W g S H (k, .dK ks xs) v f) (fr : Fre g S N f) (e : settle S k xs = some l) :
    ∃ a kvs g', v = .ref a ∧ Rd H a (.dK kvs) ∧ kvs.map (·.1) = ks ∧ Rg W g' S H ∧ Gr (· ∈ f) g S H g' S H ∧ RvL W g'.r (g'.G l) xs (kvs.map (·.2)) := by
  unfold settle at e
  by_cases i : immL xs = true
  · rw [if_pos i] at e; cases e
    obtain ⟨a, kvs, e1, e2, e4, e3⟩ : Rv W g.r H (.dK ks xs) v := h.read R
    exact ⟨a, kvs, g, e1, .inl e2, e4, R, Gr.refl, RvL.imm R.tup i e3⟩
  · rw [if_neg i] at e
    cases k with
    | vl l' =>
      cases e
      obtain ⟨_, a, kvs, e1, e2, e4, e3⟩ := h
      exact ⟨a, kvs, g, e1, .inl (R.G_h _ _ _ e2), e4, R, Gr.refl, e3⟩
    | fr j l' =>
      cases e
      obtain ⟨g', f', s, R', gr, h', _⟩ := R.wk (j := 0) (m := l) h fr.nd (fre_T fr) (Nat.zero_le _) (by cases l <;> rfl)
      obtain ⟨_, a, kvs, e1, e2, e4, e3⟩ := h'
      exact ⟨a, kvs, g', e1, .inl (R'.G_h _ _ _ e2), e4, R', gr, e3⟩
    | tn n p =>
      obtain ⟨_, b, a, k', h1, h2, h3⟩ := h
      have h1' : S[n]? = some (some b) := h1
      simp only [h1'] at e
      by_cases q : p.length + 1 < b.dp
      · rw [if_pos q] at e; cases e
      · rw [if_neg q] at e; cases e
        obtain ⟨a', e1, e2⟩ := R.box n b h1
        rw [h2] at e1; cases e1
        obtain ⟨_, fx, _, _, e3, _⟩ := e2.focus h3
        have hk := h3.len
        cases k' with
        | zero =>
          obtain ⟨_, a, kvs, q1, q2, q4, q3⟩ := e3
          exact ⟨a, kvs, g, q1, .inl (R.G_h _ _ _ q2), q4, R, Gr.refl, q3⟩
        | succ k' =>
          have : k' = 0 := by omega
          subst this
          obtain ⟨a, kvs, f0, q1, q2, q3, q5, q4⟩ := e3
          exact ⟨a, kvs, g, q1, .inl q3, q5, R, Gr.refl, RtL.freeze0 q4⟩
theorem tup_rk (R : Rg W g S H) {k : Kd} {xs : List D} {l : Bool} (h : RK W g S H (k, .tup xs) v f) (fr : Fre g S N f) (e : settle S k xs = some l) :
    ∃ a vs g', v = .ref a ∧ H a = some (.tup vs) ∧ Rg W g' S H ∧ Gr (· ∈ f) g S H g' S H ∧ RvL W g'.r (g'.G l) xs vs := by
  unfold settle at e
  by_cases i : immL xs = true
  · rw [if_pos i] at e; cases e
    obtain ⟨a, vs, e1, e2, e3⟩ : Rv W g.r H (.tup xs) v := h.read R
    exact ⟨a, vs, g, e1, e2, R, Gr.refl, RvL.imm R.tup i e3⟩
  · rw [if_neg i] at e
    cases k with
    | vl l' =>
      cases e
      obtain ⟨_, a, vs, e1, e2, e3⟩ := h
      exact ⟨a, vs, g, e1, R.G_h _ _ _ e2, R, Gr.refl, e3⟩
    | fr j l' =>
      cases e
      obtain ⟨g', f', s, R', gr, h', _⟩ := R.wk (j := 0) (m := l) h fr.nd (fre_T fr) (Nat.zero_le _) (by cases l <;> rfl)
      obtain ⟨_, a, vs, e1, e2, e3⟩ := h'
      exact ⟨a, vs, g', e1, R'.G_h _ _ _ e2, R', gr, e3⟩
    | tn n p =>
      obtain ⟨_, b, a, k', h1, h2, h3⟩ := h
      have h1' : S[n]? = some (some b) := h1
      simp only [h1'] at e
      by_cases q : p.length + 1 < b.dp
      · rw [if_pos q] at e; cases e
      · rw [if_neg q] at e; cases e
        obtain ⟨a', e1, e2⟩ := R.box n b h1
        rw [h2] at e1; cases e1
        obtain ⟨_, fx, _, _, e3, _⟩ := e2.focus h3
        have hk := h3.len
        cases k' with
        | zero =>
          obtain ⟨_, a, vs, q1, q2, q3⟩ := e3
          exact ⟨a, vs, g, q1, R.G_h _ _ _ q2, R, Gr.refl, q3⟩
        | succ k' =>
          have : k' = 0 := by omega
          subst this
          obtain ⟨a, vs, q1, q3, q4⟩ := e3
          exact ⟨a, vs, g, q1, R.G_h _ _ _ q3, R, Gr.refl, RtL.freeze0 q4⟩
/-- a new list of items that are read off the frozen part -/
theorem Po.lst {l : Bool} {ys : List D} {us : List V} {p : Addr} (R' : Rg W g' S H) (gr : Gr (· ∈ f) g S H g' S H) (h : RvL W g'.r (g'.G l) ys us) (hp : H p = none) (po : Po W g S H f (.fr 1 l, .lst ys) Q) : Q (.ref p) (upd H p (.lst us)) := by
  obtain ⟨R2, gr2⟩ := R'.new (o := .lst us) hp trivial
  refine po g' _ (.ref p) [p] R2 ((gr.trans gr2).imp fun a ha => .inr (.inr (ha.elim id False.elim))) (Ex.new hp) ⟨p, us, [], rfl, rfl, upd_same, RtL.of0 h⟩ ⟨by simp, fun a ha => ?_⟩
  have ea : a = p := by simpa using ha
  subst ea
  refine ⟨?_, fun ⟨n, b, q, hm⟩ => ?_, .inr hp⟩
  · cases q : g'.L a with
    | none => rfl
    | some o => rw [R'.lh a o q] at hp; cases hp
  · obtain ⟨o, ho⟩ := R'.box_there q a hm
    rw [hp] at ho; cases ho
/-- a new dict of such -/
theorem Po.dctK {l : Bool} {ks : List Key} {ys : List D} {kvs : List (Key × V)} {p : Addr} (R' : Rg W g' S H) (gr : Gr (· ∈ f) g S H g' S H) (hk : kvs.map (·.1) = ks) (h : RvL W g'.r (g'.G l) ys (kvs.map (·.2))) (hp : H p = none) (po : Po W g S H f (.fr 1 l, .dK ks ys) Q) : Q (.ref p) (upd H p (.dK kvs)) := by
  obtain ⟨R2, gr2⟩ := R'.new (o := .dK kvs) hp trivial
  refine po g' _ (.ref p) [p] R2 ((gr.trans gr2).imp fun a ha => .inr (.inr (ha.elim id False.elim))) (Ex.new hp) ⟨p, kvs, [], rfl, rfl, upd_same, hk, RtL.of0 h⟩ ⟨by simp, fun a ha => ?_⟩
  have ea : a = p := by simpa using ha
  subst ea
  refine ⟨?_, fun ⟨n, b, q, hm⟩ => ?_, .inr hp⟩
  · cases q : g'.L a with
    | none => rfl
    | some o => rw [R'.lh a o q] at hp; cases hp
  · obtain ⟨o, ho⟩ := R'.box_there q a hm
    rw [hp] at ho; cases ho
/-- a new tuple of such -/
theorem Po.tupl {l : Bool} {ys : List D} {us : List V} {p : Addr} (R' : Rg W g' S H) (gr : Gr (· ∈ f) g S H g' S H) (h : RvL W g'.r (g'.G l) ys us) (hp : H p = none) (po : Po W g S H f (norm (.vl l, .tup ys)) Q) : Q (.ref p) (upd H p (.tup us)) := by
  obtain ⟨R2, gr2, e2⟩ := R'.tupN (vs := us) hp
  have rk : RK W (g'.tup p us) S (upd H p (.tup us)) (.vl l, .tup ys) (.ref p) [] := ⟨rfl, p, us, rfl, e2 l, RvL.mono (Gh.G_ex gr2 l) gr2.r h⟩
  obtain ⟨fp, s, rk2⟩ := rk.norm R2
  have : fp = [] := by simpa using s
  subst this
  exact po _ _ _ [] R2 ((gr.trans gr2).imp fun a ha => .inr (.inr (ha.elim id False.elim))) (Ex.new hp) rk2 Fre.nil
theorem Po.same {l : Bool} {ys : List D} {a : Addr} {us : List V} (R' : Rg W g' S H) (gr : Gr (· ∈ f) g S H g' S H) (h : RvL W g'.r (g'.G l) ys us) (hp : H a = some (.tup us)) (po : Po W g S H f (norm (.vl l, .tup ys)) Q) : Q (.ref a) H := by
  have rk : RK W g' S H (.vl l, .tup ys) (.ref a) [] := ⟨rfl, a, us, rfl, R'.G_le (l := false) (m := l) (by cases l <;> rfl) _ _ (R'.tup _ _ hp), h⟩
  obtain ⟨fp, s, rk2⟩ := rk.norm R'
  have : fp = [] := by simpa using s
  subst this
  exact po _ _ _ [] R' gr (Ex.refl H) rk2 Fre.nil
end
end Z

namespace Z
open PySem L2 PySem.Spec PyProof.Rows
section
variable {W : Wr} {g g' g1 g2 : Gh} {S S' S1 S2 : Sto} {H H' H1 H2 : Hp} {T T1 T2 N : Addr → Prop} {X : Cx} {v u x y : V} {f f1 f2 : List Addr} {Q : VK} {a b r : Vd}

theorem opI_some {fn : Int → Int → Option D} (e : two (opI fn) [a, b] = some r) : ∃ k1 k2 i j d, a = (k1, .int i) ∧ b = (k2, .int j) ∧ fn i j = some d ∧ r = (.vl false, d) := by
  obtain ⟨k1, d1⟩ := a
  obtain ⟨k2, d2⟩ := b
  have e' : opI fn (k1, d1) (k2, d2) = some r := e
  cases d1 <;> first
    | (exfalso; cases d2 <;> (have z : (none : Option Vd) = some r := e'; cases z))
    | skip
  cases d2 <;> first
    | (exfalso; have z : (none : Option Vd) = some r := e'; cases z)
    | skip
  rename_i i j
  have z : (fn i j).map (fun d => ((.vl false, d) : Vd)) = some r := e'
  obtain ⟨d, h1, h2⟩ := Option.map_eq_some_iff.mp z
  exact ⟨k1, k2, i, j, d, rfl, rfl, h1, h2.symm⟩
theorem pure1_some {fn : D → Option D} (e : pure1 fn [a] = some r) : ∃ d, fn a.2 = some d ∧ r = (.vl false, d) := by
  have z : (fn a.2).map (fun d => ((.vl false, d) : Vd)) = some r := e
  obtain ⟨d, h1, h2⟩ := Option.map_eq_some_iff.mp z
  exact ⟨d, h1, h2.symm⟩
theorem pure2_some {fn : D → D → Option D} (e : pure2 fn [a, b] = some r) : ∃ d, fn a.2 b.2 = some d ∧ r = (.vl false, d) := by
  have z : (fn a.2 b.2).map (fun d => ((.vl false, d) : Vd)) = some r := e
  obtain ⟨d, h1, h2⟩ := Option.map_eq_some_iff.mp z
  exact ⟨d, h1, h2.symm⟩

/-- + of two lists, however they stand -/
theorem op_catS : OpR X (binaryOp .Add) (fun x y H Q => ∃ l b xs zs, x = .ref l ∧ y = .ref b ∧ SqL X.K H l xs ∧ SqL X.K H b zs ∧ xs.length + zs.length ≤ sizeLine ∧ ∀ p, H p = none → Q (.ref p) (upd H p (.lst (xs ++ zs)))) := by
  intro pins s σ H x y v u Q I rx ry h
  obtain ⟨l, b, xs, zs, rfl, rfl, hH, hB, hz, q⟩ := h
  cases rx
  cases ry
  obtain ⟨its, r, hl, _⟩ := I.list hH
  obtain ⟨its2, r2, hl2, _⟩ := I.list hB
  obtain ⟨⟨oc, od, oda, osl⟩, n1, e1, c1, d1, z1⟩ := hl
  obtain ⟨⟨oc2, od2, oda2, osl2⟩, n2, e2, c2, d2, z2⟩ := hl2
  simp only at c1 d1 z1 c2 d2 z2
  subst c1 d1 z1 c2 d2 z2
  have l1 := r.length
  have l2 := r2.length
  have ea : its.toArray ++ its2.toArray = (its ++ its2).toArray := by simp
  refine concat_meets ⟨_, e1, rfl⟩ ⟨_, e2, rfl⟩ noFill_list_add seq_list_add PySem.F.slot_list_add PySem.F.entry_list_add (PySem.F.args_list_add_2 _ _) (list_addW l b its.toArray its2.toArray n1 n2 none none osl osl2 (by rw [List.size_toArray, List.size_toArray]; omega)) ⟨e1, e2, ?_⟩
  rw [ea]
  exact ⟨.ref _, _, I.lnew (t' := s.toks) (r.append r2) (by rw [List.length_append]; omega), rfl, q _ I.fresh⟩
theorem opAdd_ok (hK : X.K = W.K) (R : Rg W g S H) (h1 : RK W g S H a x f1) (h2 : RK W g S H b y f2) (fr : Fre g S N (f1 ++ f2)) (e : opAdd S a b = some r) (po : Po W g S H (f1 ++ f2) r Q) : uO X (binaryOp .Add) x y H Q := by
  have fr1 : Fre g S N f1 := fr.sub (List.sublist_append_left ..)
  have fr2 : Fre g S N f2 := fr.sub (List.sublist_append_right ..)
  have nt : ∀ a ∈ f2, ¬ a ∈ f1 := fun a h z => (List.nodup_append.mp fr.nd).2.2 a z a h rfl
  obtain ⟨k1, d1⟩ := a
  obtain ⟨k2, d2⟩ := b
  cases d1 <;> first
    | (exfalso; cases d2 <;> (have z : (none : Option Vd) = some r := e; cases z))
    | skip
  · cases d2 <;> first
      | (exfalso; have z : (none : Option Vd) = some r := e; cases z)
      | skip
    rename_i i j
    have z : some ((.vl false, .int (i + j)) : Vd) = some r := e
    cases z
    exact uO_of op_add ⟨i, j, rk_int R h1, rk_int R h2, po.int R⟩
  · cases d2 <;> first
      | (exfalso; have z : (none : Option Vd) = some r := e; cases z)
      | skip
    rename_i i j
    have z : (if i.length + j.length ≤ sizeLine then some ((.vl false, .str (i ++ j)) : Vd) else none) = some r := e
    by_cases q : i.length + j.length ≤ sizeLine
    · rw [if_pos q] at z; cases z
      exact uO_of op_add_str ⟨i, j, rk_str R h1, rk_str R h2, q, po.str R⟩
    · rw [if_neg q] at z; cases z
  · cases d2 <;> first
      | (exfalso; have z : (none : Option Vd) = some r := e; cases z)
      | skip
    rename_i xs ys
    have z : (if xs.length + ys.length ≤ sizeLine then (settle S k1 xs).bind fun l1 => (settle S k2 ys).map fun l2 => norm (.vl (l1 || l2), .tup (xs ++ ys)) else none) = some r := e
    by_cases q : xs.length + ys.length ≤ sizeLine
    · rw [if_pos q] at z
      obtain ⟨l1, s1, z⟩ := Option.bind_eq_some_iff.mp z
      obtain ⟨l2, s2, z⟩ := Option.map_eq_some_iff.mp z
      subst z
      obtain ⟨a1, vs1, g1, e1, q1, R1, gr1, rv1⟩ := tup_rk R h1 fr1 s1
      have h2' : RK W g1 S H (k2, .tup ys) y f2 := h2.keepP (Ex.refl H) gr1
      have fr2' : Fre g1 S N f2 := fr2.keep gr1 (fun a ha => h2.there a ha) nt
      obtain ⟨a2, vs2, g2, e2, q2, R2, gr2, rv2⟩ := tup_rk R1 h2' fr2' s2
      have gr : Gr (· ∈ f1 ++ f2) g S H g2 S H := (gr1.trans gr2).imp fun a ha => .inr (.inr (List.mem_append.mpr ha))
      have rv : RvL W g2.r (g2.G (l1 || l2)) (xs ++ ys) (vs1 ++ vs2) := RvL.append (RvL.mono ((Gh.G_ex gr2 l1).trans (R2.G_le (by cases l1 <;> cases l2 <;> rfl))) gr2.r rv1) (RvL.mono (R2.G_le (by cases l1 <;> cases l2 <;> rfl)) (fun _ _ z => z) rv2)
      refine uO_of op_catA ⟨a1, a2, vs1, vs2, e1, e2, TupV.sq q1, TupV.sq q2, by rw [rv1.length, rv2.length]; exact q, fun e => ?_, fun _ e => ?_, fun _ _ p hp => Po.tupl R2 gr rv hp po⟩
      · subst e; exact Po.same R2 gr rv q2 po
      · subst e; rw [List.append_nil] at rv; exact Po.same R2 gr rv q1 po
    · rw [if_neg q] at z; cases z
  · cases d2 <;> first
      | (exfalso; have z : (none : Option Vd) = some r := e; cases z)
      | skip
    rename_i xs ys
    have z : (if xs.length + ys.length ≤ sizeLine then (settle S k1 xs).bind fun l1 => (settle S k2 ys).map fun l2 => ((.fr 1 (l1 || l2), .lst (xs ++ ys)) : Vd) else none) = some r := e
    by_cases q : xs.length + ys.length ≤ sizeLine
    · rw [if_pos q] at z
      obtain ⟨l1, s1, z⟩ := Option.bind_eq_some_iff.mp z
      obtain ⟨l2, s2, z⟩ := Option.map_eq_some_iff.mp z
      subst z
      obtain ⟨a1, vs1, g1, e1, q1, R1, gr1, rv1⟩ := lst_rk R h1 fr1 s1
      have h2' : RK W g1 S H (k2, .lst ys) y f2 := h2.keepP (Ex.refl H) gr1
      have fr2' : Fre g1 S N f2 := fr2.keep gr1 (fun a ha => h2.there a ha) nt
      obtain ⟨a2, vs2, g2, e2, q2, R2, gr2, rv2⟩ := lst_rk R1 h2' fr2' s2
      have gr : Gr (· ∈ f1 ++ f2) g S H g2 S H := (gr1.trans gr2).imp fun a ha => .inr (.inr (List.mem_append.mpr ha))
      refine uO_of op_catS ⟨a1, a2, vs1, vs2, e1, e2, by rw [hK]; exact q1, by rw [hK]; exact q2, by rw [rv1.length, rv2.length]; exact q, fun p hp => ?_⟩
      refine Po.lst R2 gr (RvL.append ?_ ?_) hp po
      · exact RvL.mono ((Gh.G_ex gr2 l1).trans (R2.G_le (by cases l1 <;> cases l2 <;> rfl))) gr2.r rv1
      · exact RvL.mono (R2.G_le (by cases l1 <;> cases l2 <;> rfl)) (fun _ _ z => z) rv2
    · rw [if_neg q] at z; cases z
theorem lstF_rk (R : Rg W g S H) {k : Nat} {l l1 : Bool} {xs : List D} (h : RK W g S H (.fr (k + 1) l, .lst xs) v f) (fr : Fre g S N f) (e : settle S (.fr (k + 1) l) xs = some l1) :
    ∃ a vs g', v = .ref a ∧ H a = some (.lst vs) ∧ Rg W g' S H ∧ Gr (· ∈ f) g S H g' S H ∧ RvL W g'.r (g'.G l1) xs vs := by
  obtain ⟨a, vs, f0, w1, w2, w3, w4⟩ : Rt W g.r (g.G l) H (.lst xs) (k + 1) v f := h
  unfold settle at e
  by_cases i : immL xs = true
  · rw [if_pos i] at e; cases e
    exact ⟨a, vs, g, w1, w3, R, Gr.refl, RvL.imm R.tup i (w4.read (R.G_h l))⟩
  · rw [if_neg i] at e; cases e
    obtain ⟨R', gr, k1, k2⟩ := R.frz (fs := f) l (fre_T fr)
    exact ⟨a, vs, g.frz H f l, w1, w3, R', gr, RtL.freeze (Gh.G_ex gr l) (fun _ _ z => z) (fun b hb o q => k1 b (by rw [w2]; exact List.mem_cons_of_mem _ hb) o q) w4⟩
theorem RvL.repl {ρ : Rho} {G : Hp} {xs : List D} {vs : List V} (h : RvL W ρ G xs vs) : ∀ n : Nat, RvL W ρ G (List.replicate n xs).flatten (List.replicate n vs).flatten
  | 0 => rfl
  | n + 1 => by
    rw [List.replicate_succ, List.replicate_succ, List.flatten_cons, List.flatten_cons]
    exact RvL.append h (RvL.repl h n)
theorem opMul_ok (hK : X.K = W.K) (R : Rg W g S H) (h1 : RK W g S H a x f1) (h2 : RK W g S H b y f2) (fr : Fre g S N (f1 ++ f2)) (e : opMul S a b = some r) (po : Po W g S H (f1 ++ f2) r Q) : uO X (binaryOp .Mult) x y H Q := by
  have fr1 : Fre g S N f1 := fr.sub (List.sublist_append_left ..)
  obtain ⟨k1, d1⟩ := a
  obtain ⟨k2, d2⟩ := b
  cases d1 <;> first
    | (exfalso; cases k1 <;> cases d2 <;> (have z : (none : Option Vd) = some r := e; cases z))
    | skip
  · cases d2 <;> first
      | (exfalso; cases k1 <;> (have z : (none : Option Vd) = some r := e; cases z))
      | skip
    rename_i i j
    have z : (if i.natAbs.log2 + j.natAbs.log2 < 1000000 then some ((.vl false, .int (i * j)) : Vd) else none) = some r := e
    by_cases q : i.natAbs.log2 + j.natAbs.log2 < 1000000
    · rw [if_pos q] at z; cases z
      exact uO_of op_mulW ⟨i, j, rk_int R h1, rk_int R h2, q, po.int R⟩
    · rw [if_neg q] at z; cases z
  · rename_i c
    cases d2 <;> first
      | (exfalso; cases k1 <;> (have z : (none : Option Vd) = some r := e; cases z))
      | skip
    rename_i j
    have z : (if 0 ≤ j ∧ j ≤ 1000 ∧ c.length ≤ 1000 then vT (.str (mkS (List.replicate j.toNat c.cps.toList).flatten)) else none) = some r := by cases k1 <;> exact e
    by_cases q : 0 ≤ j ∧ j ≤ 1000 ∧ c.length ≤ 1000
    · rw [if_pos q] at z; cases z
      exact uO_of op_mulS ⟨c, j, rk_str R h1, rk_int R h2, q.1, q.2.1, q.2.2, po.str R⟩
    · rw [if_neg q] at z; cases z
  · rename_i xs
    cases d2 <;> first
      | (exfalso; rcases k1 with _ | ⟨_ | _, _⟩ | _ <;> (have z : (none : Option Vd) = some r := e; cases z))
      | skip
    rename_i j
    rcases k1 with _ | ⟨_ | k, l⟩ | _ <;> first
      | (exfalso; have z : (none : Option Vd) = some r := e; cases z)
      | skip
    have z : (if -(2 ^ 63) ≤ j ∧ j < 2 ^ 63 ∧ xs.length * j.toNat ≤ sizeLine then listK S (.fr (k + 1) l) xs (List.replicate j.toNat xs).flatten else none) = some r := e
    by_cases q : -(2 ^ 63) ≤ j ∧ j < 2 ^ 63 ∧ xs.length * j.toNat ≤ sizeLine
    · rw [if_pos q] at z
      obtain ⟨l1, s1, z⟩ := Option.map_eq_some_iff.mp z
      subst z
      obtain ⟨a1, vs1, g1, e1, q1, R1, gr1, rv1⟩ := lstF_rk R h1 fr1 s1
      have gr : Gr (· ∈ f1 ++ f2) g S H g1 S H := gr1.imp fun a ha => .inr (.inr (List.mem_append_left _ ha))
      exact uO_of op_rep ⟨a1, j, vs1, e1, rk_int R h2, q1, q.1, q.2.1, by rw [rv1.length]; exact q.2.2, fun p hp => Po.lst R1 gr (RvL.repl rv1 _) hp po⟩
    · rw [if_neg q] at z; cases z
theorem binI_ok {bo : Operator} {fn : Int → Int → Option D} (R : Rg W g S H) (h1 : RK W g S H a x f1) (h2 : RK W g S H b y f2) (e : two (opI fn) [a, b] = some r) (po : Po W g S H (f1 ++ f2) r Q)
    (rule : ∀ (i j k : Int), fn i j = some (.int k) → ∀ Q : VK, Q (.int k) H → uO X (binaryOp bo) (.int i) (.int j) H Q) (all : ∀ i j d, fn i j = some d → ∃ k, d = .int k) : uO X (binaryOp bo) x y H Q := by
  obtain ⟨k1, k2, i, j, d, rfl, rfl, q, rfl⟩ := opI_some e
  obtain ⟨k, rfl⟩ := all i j d q
  rw [rk_int R h1, rk_int R h2]
  exact rule i j k q Q (po.int R)
theorem ite_some {α : Type} {c : Prop} [Decidable c] {a b : α} (h : (if c then some a else none) = some b) : c ∧ a = b := by
  by_cases q : c
  · rw [if_pos q] at h; exact ⟨q, Option.some.inj h⟩
  · rw [if_neg q] at h; cases h
def binO : Op → Option Operator
  | .add => some .Add | .sub => some .Sub | .mul => some .Mult | .fdiv => some .FloorDiv | .mod => some .Mod | .pow => some .Pow | .shl => some .LShift | .shr => some .RShift | .band => some .BitAnd | .bor => some .BitOr
  | _ => none
theorem bin_ok {o : Op} {bo : Operator} (hb : binO o = some bo) (hK : X.K = W.K) (R : Rg W g S H) (h1 : RK W g S H a x f1) (h2 : RK W g S H b y f2) (fr : Fre g S N (f1 ++ f2)) (e : opv o S [a, b] = some r) (po : Po W g S H (f1 ++ f2) r Q) : uO X (binaryOp bo) x y H Q := by
  cases o <;> first
    | (exfalso; cases hb; done)
    | skip
  all_goals cases hb
  · exact opAdd_ok hK R h1 h2 fr e po
  · exact binI_ok R h1 h2 e po (fun i j k q Q hq => by cases q; exact uO_of op_sub ⟨i, j, rfl, rfl, hq⟩) fun i j d q => ⟨_, (Option.some.inj q).symm⟩
  · exact opMul_ok hK R h1 h2 fr e po
  · exact binI_ok R h1 h2 e po (fun i j k q Q hq => by obtain ⟨q1, q2⟩ := ite_some q; cases q2; exact uO_of op_fdivW ⟨i, j, rfl, rfl, q1, hq⟩) fun i j d q => ⟨_, (ite_some q).2.symm⟩
  · exact binI_ok R h1 h2 e po (fun i j k q Q hq => by obtain ⟨q1, q2⟩ := ite_some q; cases q2; exact uO_of op_mod ⟨i, j, rfl, rfl, q1, hq⟩) fun i j d q => ⟨_, (ite_some q).2.symm⟩
  · exact binI_ok R h1 h2 e po (fun i j k q Q hq => by obtain ⟨q1, q2⟩ := ite_some q; cases q2; exact uO_of op_pow ⟨i, j, rfl, rfl, q1, hq⟩) fun i j d q => ⟨_, (ite_some q).2.symm⟩
  · exact binI_ok R h1 h2 e po (fun i j k q Q hq => by obtain ⟨q1, q2⟩ := ite_some q; cases q2; exact uO_of op_shl ⟨i, j, rfl, rfl, q1, hq⟩) fun i j d q => ⟨_, (ite_some q).2.symm⟩
  · exact binI_ok R h1 h2 e po (fun i j k q Q hq => by obtain ⟨q1, q2⟩ := ite_some q; cases q2; exact uO_of op_shr ⟨i, j, rfl, rfl, q1, hq⟩) fun i j d q => ⟨_, (ite_some q).2.symm⟩
  · exact binI_ok R h1 h2 e po (fun i j k q Q hq => by cases q; exact uO_of op_and ⟨i, j, rfl, rfl, hq⟩) fun i j d q => ⟨_, (Option.some.inj q).symm⟩
  · exact binI_ok R h1 h2 e po (fun i j k q Q hq => by cases q; exact uO_of op_or ⟨i, j, rfl, rfl, hq⟩) fun i j d q => ⟨_, (Option.some.inj q).symm⟩

mutual
theorem Rv.dp {ρ : Rho} {G : Hp} : ∀ {d : D} {v : V} {p : PyData}, Rv W ρ G d v → d.toP = some p → Dp W.K G v p
  | .non, v, p, h, e => by rw [show v = _ from h]; cases e; exact .non
  | .bl b, v, p, h, e => by rw [show v = _ from h]; cases e; exact .bl b
  | .int i, v, p, h, e => by rw [show v = _ from h]; cases e; exact .int i
  | .str x, v, p, h, e => by rw [show v = _ from h]; cases e; exact .str x
  | .tup xs, v, p, ⟨a, vs, h1, h2, h3⟩, e => by
    obtain ⟨ps, e1, e2⟩ := Option.map_eq_some_iff.mp (show (toPL xs).map PyData.tuple = some p from e)
    subst e2 h1
    exact .tup (TupV.sq h2) (RvL.dp h3 e1)
  | .lst xs, v, p, ⟨a, vs, h1, h2, h3⟩, e => by
    obtain ⟨ps, e1, e2⟩ := Option.map_eq_some_iff.mp (show (toPL xs).map PyData.list = some p from e)
    subst e2 h1
    exact .lst h2 (RvL.dp h3 e1)
  | .dK _ _, _, _, _, e => by cases e
  | .dT _ _, _, _, _, e => by cases e
  | .obj _ _ _, _, _, _, e => by cases e
  | .bx _, _, _, _, e => by cases e
theorem RvL.dp {ρ : Rho} {G : Hp} : ∀ {ds : List D} {vs : List V} {ps : List PyData}, RvL W ρ G ds vs → toPL ds = some ps → DpAll W.K G vs ps
  | [], vs, ps, h, e => by rw [show vs = [] from h]; cases e; exact .nil
  | d :: ds, vs, ps, ⟨v, ws, h1, h2, h3⟩, e => by
    obtain ⟨q, e1, e⟩ := Option.bind_eq_some_iff.mp (show d.toP.bind (fun p => (toPL ds).map fun ps => p :: ps) = some ps from e)
    obtain ⟨qs, e2, e3⟩ := Option.map_eq_some_iff.mp e
    subst e3 h1
    exact .cons (Rv.dp h2 e1) (RvL.dp h3 e2)
end
theorem dec_vint {i j : Int} : decide (V.int i = V.int j) = decide (i = j) := by rw [dec_int]; rfl
theorem dec_vstr {i j : Str} : decide (V.str i = V.str j) = decide (i = j) := decide_eq_decide.mpr ⟨fun h => V.str.inj h, fun h => by rw [h]⟩
theorem dec_vbl {i j : Bool} : decide (V.bl i = V.bl j) = decide (i = j) := decide_eq_decide.mpr ⟨fun h => V.bl.inj h, fun h => by rw [h]⟩
theorem eqD_ok (hK : X.K = W.K) (hu : X.A.units + 64 < cLine) (R : Rg W g S H) (h1 : RK W g S H a x f1) (h2 : RK W g S H b y f2) {q : Bool} (e : eqD a.2 b.2 = some q) :
    (∀ Q : VK, Q (.bl q) H → uO X (compareOp .Eq) x y H Q) ∧ ∀ Q : VK, Q (.bl (!q)) H → uO X (compareOp .NotEq) x y H Q := by
  have gen : (a.2.toP.bind fun p => b.2.toP.bind fun q => if SeqAt.shaped p && SeqAt.shaped q then some (PyData.eqv p q) else none) = some q →
      (∀ Q : VK, Q (.bl q) H → uO X (compareOp .Eq) x y H Q) ∧ ∀ Q : VK, Q (.bl (!q)) H → uO X (compareOp .NotEq) x y H Q := fun e => by
    obtain ⟨p, e1, e⟩ := Option.bind_eq_some_iff.mp e
    obtain ⟨p', e2, e⟩ := Option.bind_eq_some_iff.mp e
    obtain ⟨e3, e4⟩ := ite_some e
    obtain ⟨e5, e6⟩ := Bool.and_eq_true_iff.mp e3
    subst e4
    have r1 := (h1.read R).dp e1
    have r2 := (h2.read R).dp e2
    rw [← hK] at r1 r2
    exact ⟨fun Q hq => uO_of (op_eqD hu) ⟨p, p', r1, r2, e5, e6, hq⟩, fun Q hq => uO_of (op_neD hu) ⟨p, p', r1, r2, e5, e6, hq⟩⟩
  obtain ⟨k1, d1⟩ := a
  obtain ⟨k2, d2⟩ := b
  cases d1 <;> cases d2 <;> first
    | exact gen e
    | skip
  · rename_i i j
    cases e
    have e1 := rk_str R h1
    have e2 := rk_str R h2
    subst e1 e2
    exact ⟨fun Q hq => uO_of op_eq ⟨rfl, by rw [dec_vstr]; exact hq⟩, fun Q hq => uO_of op_ne ⟨rfl, by rw [dec_vstr]; exact hq⟩⟩
theorem Rv.flat {ρ : Rho} {G : Hp} {d : D} {v w : V} (h : Rv W ρ G d v) (e : d.flat = some w) : v = w ∧ flatV v = true := by
  cases d <;> first
    | (cases e; rw [show v = _ from h]; exact ⟨rfl, rfl⟩)
    | cases e
theorem RvL.flat {ρ : Rho} {G : Hp} : ∀ {ds : List D} {vs ws : List V}, RvL W ρ G ds vs → flatL ds = some ws → vs = ws ∧ vs.all flatV = true
  | [], vs, ws, h, e => by rw [show vs = [] from h]; cases e; exact ⟨rfl, rfl⟩
  | d :: ds, vs, ws, ⟨v, us, h1, h2, h3⟩, e => by
    obtain ⟨q, e1, e⟩ := Option.bind_eq_some_iff.mp (show d.flat.bind (fun v => (flatL ds).map fun vs => v :: vs) = some ws from e)
    obtain ⟨qs, e2, e3⟩ := Option.map_eq_some_iff.mp e
    subst e3 h1
    obtain ⟨z1, z2⟩ := h2.flat e1
    obtain ⟨z3, z4⟩ := RvL.flat h3 e2
    subst z1 z3
    exact ⟨rfl, by rw [List.all_cons, z2, z4]; rfl⟩
theorem Rv.key {ρ : Rho} {G : Hp} {d : D} {v : V} {k : Key} (h : Rv W ρ G d v) (e : d.key = some k) : v = kV k := by
  cases d <;> first
    | (cases e; exact h)
    | cases e
theorem RvL.key {ρ : Rho} {G : Hp} : ∀ {ds : List D} {vs : List V} {ks : List Key}, RvL W ρ G ds vs → keyL ds = some ks → vs = ks.map kV
  | [], vs, ws, h, e => by rw [show vs = [] from h]; cases e; rfl
  | d :: ds, vs, ws, ⟨v, us, h1, h2, h3⟩, e => by
    obtain ⟨q, e1, e⟩ := Option.bind_eq_some_iff.mp (show d.key.bind (fun v => (keyL ds).map fun vs => v :: vs) = some ws from e)
    obtain ⟨qs, e2, e3⟩ := Option.map_eq_some_iff.mp e
    subst e3 h1
    rw [h2.key e1, RvL.key h3 e2]; rfl
/-- where a key stands, its value -/
theorem valV_pos {κ : Type} [DecidableEq κ] (k : κ) : ∀ (kvs : List (κ × V)), valV kvs k = (posOf (kvs.map (·.1)) k).bind fun j => (kvs.map (·.2))[j]?
  | [] => rfl
  | (k', v) :: r => by
    have ih := valV_pos k r
    unfold valV posOf at *
    simp only [List.find?_cons, List.map_cons, List.findIdx?_cons]
    by_cases e : k' = k
    · simp [e]
    · simp only [decide_eq_true_eq] at *
      simp only [e, decide_false]
      rw [ih]
      cases h : (List.map (fun x => x.1) r).findIdx? (fun q => decide (q = k)) <;> simp [h]
theorem posOf_lt {κ : Type} [DecidableEq κ] {ks : List κ} {k : κ} {j : Nat} (h : posOf ks k = some j) : j < ks.length := by
  obtain ⟨hj, _⟩ := List.findIdx?_eq_some_iff_findIdx_eq.mp h
  exact hj
/-- a key asked of a dict -/
theorem dPos_get (R : Rg W g S H) (h1 : RK W g S H a x f1) (h2 : RK W g S H b y f2) {o : Option Nat} (e : dPos a.2 b.2 = some o) : ∃ c w, x = .ref c ∧ DGet H c y w ∧ w.isSome = o.isSome ∧ ∀ j, o = some j → ∃ d v, a.2.kids[j]? = some d ∧ w = some v ∧ Rv W g.r H d v := by
  have r1 := h1.read R
  have r2 := h2.read R
  obtain ⟨k1, d1⟩ := a
  obtain ⟨k2, d2⟩ := b
  cases d1 <;> first
    | (exfalso; cases d2 <;> (have z : (none : Option (Option Nat)) = some o := e; cases z))
    | skip
  · rename_i ks xs
    obtain ⟨c, kvs, q1, q2, q3, q4⟩ := r1
    obtain ⟨k, e1, e2⟩ := Option.map_eq_some_iff.mp (show d2.key.map (fun k => posOf ks k) = some o by cases d2 <;> exact e)
    have ey := Rv.key r2 e1
    have ev := valV_pos k kvs
    rw [q3, e2] at ev
    have hl : xs.length = ks.length := by rw [← q4.length, ← q3, List.length_map, List.length_map]
    cases o with
    | none => exact ⟨c, _, q1, by rw [ey]; exact DGet.k q2, by rw [ev]; rfl, fun j z => by cases z⟩
    | some j =>
      have hj : j < xs.length := by rw [hl]; exact posOf_lt e2
      obtain ⟨u, w1, w2⟩ := q4.get (List.getElem?_eq_getElem hj)
      refine ⟨c, _, q1, by rw [ey]; exact DGet.k q2, by rw [ev]; show ((kvs.map (·.2))[j]?).isSome = true; rw [w1]; rfl, fun j' z => ?_⟩
      cases z
      exact ⟨xs[j], u, List.getElem?_eq_getElem hj, by rw [ev]; exact w1, w2⟩
  · rename_i ks xs
    obtain ⟨c, kvs, q1, q2, q3, q4⟩ := r1
    cases d2 <;> first
      | (exfalso; have z : (none : Option (Option Nat)) = some o := e; cases z)
      | skip
    rename_i ys
    obtain ⟨k, e1, e2⟩ := Option.map_eq_some_iff.mp (show (keyL ys).map (fun k => posOf ks k) = some o from e)
    obtain ⟨t, ts, t1, t2, t3⟩ := r2
    have ey := RvL.key t3 e1
    have ev := valV_pos k kvs
    rw [q3, e2] at ev
    have hl : xs.length = ks.length := by rw [← q4.length, ← q3, List.length_map, List.length_map]
    have dg : DGet H c y (valV kvs k) := by rw [t1]; exact DGet.t q2 (by rw [t2, ey])
    cases o with
    | none => exact ⟨c, _, q1, dg, by rw [ev]; rfl, fun j z => by cases z⟩
    | some j =>
      have hj : j < xs.length := by rw [hl]; exact posOf_lt e2
      obtain ⟨u, w1, w2⟩ := q4.get (List.getElem?_eq_getElem hj)
      refine ⟨c, _, q1, dg, by rw [ev]; show ((kvs.map (·.2))[j]?).isSome = true; rw [w1]; rfl, fun j' z => ?_⟩
      cases z
      exact ⟨xs[j], u, List.getElem?_eq_getElem hj, by rw [ev]; exact w1, w2⟩
end
end Z

namespace Z
open PySem L2 PySem.Spec PyProof.Rows
section
variable {X : Cx} {x : Expr} {xs es : List Expr} {σ : L2.St} {H : Hp} {Q Q' : VK}
def uE (X : Cx) (x : Expr) : TE := fun σ H Q => ∀ (pins : List (Addr × Obj)) (s : Shared), Inv X pins σ H s → wpAny (model X.prog X.w) X.A (eval x X.env) (EP X pins σ Q) X.xe s
theorem pe_u : PE X x (uE X x) := ⟨fun pins s σ H Q I h => h pins s I⟩
theorem uE_of {t : TE} (p : PE X x t) (h : t σ H Q) : uE X x σ H Q := fun pins s I => p.run pins s σ H Q I h
theorem uE.mono (h : uE X x σ H Q) (k : ∀ v H', Q v H' → Q' v H') : uE X x σ H Q' := fun pins s I => thn (h pins s I) fun u s' ⟨v, H', I', r, q⟩ => ⟨v, H', I', r, k v H' q⟩
def uT (X : Cx) (x : Expr) : TT := fun σ H Q => ∀ (pins : List (Addr × Obj)) (s : Shared), Inv X pins σ H s → wpAny (model X.prog X.w) X.A (isTrue x X.env (eval x X.env)) (TP X pins σ Q) X.xe s
theorem pt_u : PT X x (uT X x) := ⟨fun pins s σ H Q I h => h pins s I⟩
theorem uT_of {t : TT} (p : PT X x t) {Q : Bool → Hp → Prop} (h : t σ H Q) : uT X x σ H Q := fun pins s I => p.run pins s σ H Q I h
theorem uT.mono {Q Q' : Bool → Hp → Prop} (h : uT X x σ H Q) (k : ∀ v H', Q v H' → Q' v H') : uT X x σ H Q' := fun pins s I => thn (h pins s I) fun u s' ⟨H', I', q⟩ => ⟨H', I', k u H' q⟩
def uL (X : Cx) : List Expr → TA
  | [] => tNil
  | e :: es => tCons (uE X e) (uL X es)
theorem uL.mono : ∀ {es : List Expr} {H : Hp} {Q Q' : List V → Hp → Prop}, uL X es σ H Q → (∀ v H', Q v H' → Q' v H') → uL X es σ H Q'
  | [], _, _, _, h, k => k _ _ h
  | _ :: _, _, _, _, h, k => uE.mono h fun _ _ q => uL.mono q fun _ _ q => k _ _ q
def plainE : Expr → Bool
  | .Starred _ _ => false
  | _ => true
theorem star_cons {e : Expr} {es : List Expr} {env : Env} (h : plainE e = true) : starEach (e :: es) env = (false, eval e env) :: starEach es env := by
  cases e <;> first | rfl | cases h
theorem star_any {pos : Pos} {env : Env} : ∀ {es : List Expr}, es.all plainE = true → (backTo pos (starEach es env)).any (·.1) = false
  | [], _ => by simp [starEach, backTo]
  | e :: es, h => by
    obtain ⟨h1, h2⟩ := Bool.and_eq_true_iff.mp (show (plainE e && es.all plainE) = true from h)
    rw [star_cons h1]
    show (false || (backTo pos (starEach es env)).any (·.1)) = false
    rw [star_any h2]; rfl
theorem star_all {pos : Pos} {env : Env} : ∀ {es : List Expr}, es.all plainE = true → (backTo pos (starEach es env)).all (fun x => !x.1) = true
  | [], _ => by simp [starEach, backTo]
  | e :: es, h => by
    obtain ⟨h1, h2⟩ := Bool.and_eq_true_iff.mp (show (plainE e && es.all plainE) = true from h)
    rw [star_cons h1]
    show (true && (backTo pos (starEach es env)).all (fun x => !x.1)) = true
    rw [star_all h2]; rfl
theorem pa_u : ∀ {es : List Expr}, es.all plainE = true → PA X es (uL X es)
  | [], _ => pa_nil
  | e :: es, h => by
    obtain ⟨h1, h2⟩ := Bool.and_eq_true_iff.mp (show (plainE e && es.all plainE) = true from h)
    exact pa_cons pe_u (pa_u h2) (star_cons h1)
def uM (X : Cx) (id : String) : V → List V → Hp → VK → Prop := fun x xs H Q => ∀ (pins : List (Addr × Obj)) (s : Shared) (σ : L2.St) (v : Value) (us : List Value), Inv X pins σ H s → RelV x v → Vals xs us → wpAny (model X.prog X.w) X.A (call (.builtin id) (v :: us)) (EP X pins σ Q) X.xe s
theorem uM_ok {id : String} : MtR X id (uM X id) := fun pins s σ H x xs v us Q I r rs h => h pins s σ v us I r rs
theorem uM_of {id : String} {r : V → List V → Hp → VK → Prop} (h : MtR X id r) {x : V} {xs : List V} (q : r x xs H Q) : uM X id x xs H Q := fun pins s σ v us I r1 r2 => h pins s σ H x xs v us Q I r1 r2 q
def uU (X : Cx) (op : UnaryOp) : V → Hp → VK → Prop := fun x H Q => ∀ (pins : List (Addr × Obj)) (s : Shared) (σ : L2.St) (v : Value), Inv X pins σ H s → RelV x v → wpAny (model X.prog X.w) X.A (unaryOp op v) (EP X pins σ Q) X.xe s
theorem uU_ok {op : UnaryOp} : UnR X (unaryOp op) (uU X op) := fun pins s σ H x v Q I r h => h pins s σ v I r
theorem uU_of {op : UnaryOp} {r : V → Hp → VK → Prop} (h : UnR X (unaryOp op) r) {x : V} (q : r x H Q) : uU X op x H Q := fun pins s σ v I r1 => h pins s σ H x v Q I r1 q
def uS (X : Cx) : V → Option Int → Option Int → Hp → VK → Prop := fun x lo hi H Q => ∀ (pins : List (Addr × Obj)) (s : Shared) (σ : L2.St) (v vl vu : Value) (sl : Addr), Inv X pins σ H s → RelV x v → s.heap.IsSliceOf sl vl vu .none → IsPart vl lo → IsPart vu hi →
    ∃ T id, typeLookup (.type T) "__getitem__" = pure (some (.builtin id)) ∧ s.TypeIs v T ∧ wpAny (model X.prog X.w) X.A (getItem v (.ref sl)) (EP X pins σ Q) X.xe s
theorem uS_ok : SlR X (uS X) := fun pins s σ H x v vl vu lo hi sl Q I r a b c h => h pins s σ v vl vu sl I r a b c
theorem uS_of {r : V → Option Int → Option Int → Hp → VK → Prop} (h : SlR X r) {x : V} {lo hi : Option Int} (q : r x lo hi H Q) : uS X x lo hi H Q := fun pins s σ v vl vu sl I r a b c => h pins s σ H x v vl vu lo hi sl Q I r a b c q

inductive OpK where
  | bin (o : Operator) | cmp (c : CmpOp) | blt (nm : Str) (id : String) (n : Nat) | typ (nm : Str) (T : String) (n : Nat) | mth (T : String) (nm : Str) (id : String) (n : Nat)
  | spec
def opK : Op → OpK
  | .add => .bin .Add | .sub => .bin .Sub | .mul => .bin .Mult | .fdiv => .bin .FloorDiv | .mod => .bin .Mod | .pow => .bin .Pow | .shl => .bin .LShift | .shr => .bin .RShift | .band => .bin .BitAnd | .bor => .bin .BitOr
  | .eq => .cmp .Eq | .ne => .cmp .NotEq | .lt => .cmp .Lt | .le => .cmp .LtE | .gt => .cmp .Gt | .ge => .cmp .GtE | .inn => .cmp .In | .nin => .cmp .NotIn
  | .len => .blt "len" "len" 1 | .abs => .blt "abs" "abs" 1 | .min2 => .blt "min" "min" 2 | .max2 => .blt "max" "max" 2 | .minL => .blt "min" "min" 1 | .maxL => .blt "max" "max" 1 | .sumL => .blt "sum" "sum" 1 | .anyL => .blt "any" "any" 1 | .sorted1 => .blt "sorted" "sorted" 1
  | .int1 => .typ "int" "int" 1 | .str1 => .typ "str" "str" 1 | .list1 => .typ "list" "list" 1 | .tuple1 => .typ "tuple" "tuple" 1 | .dict1 => .typ "dict" "dict" 1
  | .join => .mth "str" "join" "str.join" 1 | .split => .mth "str" "split" "str.split" 1 | .find2 => .mth "str" "find" "str.find" 2 | .find1 => .mth "str" "find" "str.find" 1
  | .index => .mth "list" "index" "list.index" 1 | .count => .mth "list" "count" "list.count" 1 | .get1 => .mth "dict" "get" "dict.get" 1 | .get2 => .mth "dict" "get" "dict.get" 2
  | _ => .spec
def tyName : Nat → String
  | 0 => "int" | 1 => "bool" | 2 => "str" | 3 => "list" | _ => "tuple"
/-- where one stands: the names by slot, the scope -/
structure Lc where
  N : List Str
  sc : Scope
  fn : Str → Bool
  hot : Bool
/-- does the operation go in an except suite, too -/
def hotOp : Op → Bool
  | .min2 | .max2 | .minL | .maxL | .sumL | .anyL | .list1 | .tuple1 | .sorted1 | .dict1 => false
  | _ => true
def kindB (l : Lc) (x : Str) (k : NameKind) : Bool := decide (l.sc.names.lookup x = some k)
def gloB (l : Lc) (x : Str) : Bool := kindB l x .globalImplicit
def visB (l : Lc) (x : Str) : Bool := kindB l x .local || kindB l x .cell || kindB l x .free
/-- of a program's top: names that are free; constants; fields -/
structure Tb where
  free : List Str
  flds : List Str
  con : List (Str × D)
  fns : List Str
  cls : List Str
  exc : List Str
def okNm (x : Str) : Bool := !(x == ("__debug__" : Str)) && !(x == ("__classdict__" : Str)) && decide (x ≠ ("__name__" : Str))
def noSl : Expr → Bool
  | .Slice _ _ _ _ => false
  | _ => true
def plainBase : Expr → Bool
  | .Call (.Name _ _) [] [] _ => false
  | _ => true
def mSp (t : Tb) (l : Lc) (o : Op) (x : Expr) : Option (List Expr) := match o, x with
  | .neg, .UnaryOp .USub a _ => some [a]
  | .notB, .UnaryOp .Not a _ => some [a]
  | .isN, .Compare a [.Is] [.Constant .none _ _] _ => some [a]
  | .notN, .Compare a [.IsNot] [.Constant .none _ _] _ => some [a]
  | .idx, .Subscript a b _ => if noSl b = true then some [a, b] else none
  | .sl false false, .Subscript a (.Slice none none none _) _ => some [a]
  | .sl true false, .Subscript a (.Slice (some b) none none _) _ => some [a, b]
  | .sl false true, .Subscript a (.Slice none (some b) none _) _ => some [a, b]
  | .sl true true, .Subscript a (.Slice (some b) (some c) none _) _ => some [a, b, c]
  | .isI n, .Call (.Name y _) [a, .Name T _] [] _ => if y = "isinstance" ∧ T = Str.ofString (tyName n) ∧ gloB l y = true ∧ y ∈ t.free ∧ gloB l T = true ∧ T ∈ t.free ∧ plainE a = true then some [a] else none
  | .tupD _ _, .Tuple as _ _ => if as.all plainE = true then some as else none
  | .lstD _ _, .List as _ => if as.all plainE = true then some as else none
  | .emK, .Dict [] [] _ => some []
  | .emT, .Dict [] [] _ => some []
  | .fld f, .Attribute a g _ => if g = f ∧ f ∈ t.flds ∧ plainBase a = true then some [a] else none
  | _, _ => none
def mBin (b : Operator) (x : Expr) : Option (List Expr) := match x with
  | .BinOp a op c _ => if op = b then some [a, c] else none
  | _ => none
def mCmp (b : CmpOp) (x : Expr) : Option (List Expr) := match x with
  | .Compare a [op] [c] _ => if op = b ∧ behindInMarks op c = false then some [a, c] else none
  | _ => none
theorem mBin_some {b : Operator} {x : Expr} {xs : List Expr} (e : mBin b x = some xs) : ∃ a c pos, x = .BinOp a b c pos ∧ xs = [a, c] := by
  unfold mBin at e
  split at e
  · obtain ⟨h1, h3⟩ := ite_some e
    subst h1 h3
    exact ⟨_, _, _, rfl, rfl⟩
  · cases e
theorem mCmp_some {b : CmpOp} {x : Expr} {xs : List Expr} (e : mCmp b x = some xs) : ∃ a c pos, x = .Compare a [b] [c] pos ∧ xs = [a, c] ∧ behindInMarks b c = false := by
  unfold mCmp at e
  split at e
  · obtain ⟨⟨h1, h2⟩, h3⟩ := ite_some e
    subst h1 h3
    exact ⟨_, _, _, rfl, rfl, h2⟩
  · cases e
def mCallN (t : Tb) (l : Lc) (nm : Str) (n : Nat) (x : Expr) : Option (List Expr) := match x with
  | .Call (.Name y _) as [] _ => if y = nm ∧ as.length = n ∧ gloB l y = true ∧ y ∈ t.free ∧ as.all plainE = true then some as else none
  | _ => none
def mMth (nm : Str) (n : Nat) (x : Expr) : Option (List Expr) := match x with
  | .Call (.Attribute r y ap) as [] cp => if y = nm ∧ as.length = n ∧ as.all plainE = true ∧ plainBase r = true ∧ (ap.endLine == cp.line) = true then some (r :: as) else none
  | _ => none
theorem mCallN_some {t : Tb} {l : Lc} {nm : Str} {n : Nat} {x : Expr} {xs : List Expr} (e : mCallN t l nm n x = some xs) : ∃ p pos, x = .Call (.Name nm p) xs [] pos ∧ xs.length = n ∧ gloB l nm = true ∧ nm ∈ t.free ∧ xs.all plainE = true := by
  unfold mCallN at e
  split at e
  · obtain ⟨⟨h1, h2⟩, h3⟩ := ite_some e
    subst h1 h3
    exact ⟨_, _, rfl, h2⟩
  · cases e
theorem mMth_some {nm : Str} {n : Nat} {x : Expr} {xs : List Expr} (e : mMth nm n x = some xs) : ∃ r ap as cp, x = .Call (.Attribute r nm ap) as [] cp ∧ xs = r :: as ∧ as.length = n ∧ as.all plainE = true ∧ plainBase r = true ∧ (ap.endLine == cp.line) = true := by
  unfold mMth at e
  split at e
  · obtain ⟨⟨h1, h2⟩, h3⟩ := ite_some e
    subst h1 h3
    exact ⟨_, _, _, _, rfl, rfl, h2⟩
  · cases e
/-- the operands of an expression that is this operation -/
def mOp (t : Tb) (l : Lc) (o : Op) (x : Expr) : Option (List Expr) := match opK o with
  | .bin b => mBin b x
  | .cmp b => mCmp b x
  | .blt nm _ n => mCallN t l nm n x
  | .typ nm _ n => mCallN t l nm n x
  | .mth _ nm _ n => mMth nm n x
  | .spec => mSp t l o x
def uSp (W : Wr) (X : Cx) (o : Op) (vs : List V) (H : Hp) (Q : VK) : Prop := match o with
  | .neg => ∃ x, vs = [x] ∧ uU X .USub x H Q
  | .notB => ∃ x, vs = [x] ∧ ∃ k, TruV X.K x H k ∧ Q (.bl (!k)) H
  | .isN => ∃ x, vs = [x] ∧ Q (.bl (decide (x = .non))) H
  | .notN => ∃ x, vs = [x] ∧ Q (.bl (!decide (x = .non))) H
  | .idx => ∃ x y, vs = [x, y] ∧ uI X x y H Q
  | .sl false false => ∃ x, vs = [x] ∧ uS X x none none H Q
  | .sl true false => ∃ x i, vs = [x, .int i] ∧ uS X x (some i) none H Q
  | .sl false true => ∃ x i, vs = [x, .int i] ∧ uS X x none (some i) H Q
  | .sl true true => ∃ x i j, vs = [x, .int i, .int j] ∧ uS X x (some i) (some j) H Q
  | .isI n => ∃ x, vs = [x] ∧ uC X (.builtin "isinstance") [x, .ty (tyName n)] H Q
  | .tupD _ _ => vs.length ≤ sizeLine ∧ ∀ p, H p = none → Q (.ref p) (upd H p (.tup vs))
  | .lstD _ _ => vs.length ≤ sizeLine ∧ ∀ p, H p = none → Q (.ref p) (upd H p (.lst vs))
  | .emK => ∀ d, H d = none → Q (.ref d) (upd H d (.dK []))
  | .emT => ∀ d, H d = none → Q (.ref d) (upd H d (.dT []))
  | .fld f => ∃ x a c dx fs v, vs = [x] ∧ x = .ref a ∧ H a = some (.ins (W.cl c) dx fs) ∧ fs.lookup f = some v ∧ Q v H
  | _ => False
/-- what an operation wants of its operands' values -/
def uOp (W : Wr) (X : Cx) (o : Op) (vs : List V) (H : Hp) (Q : VK) : Prop := match opK o with
  | .bin b => ∃ x y, vs = [x, y] ∧ uO X (binaryOp b) x y H Q
  | .cmp b => ∃ x y, vs = [x, y] ∧ uO X (compareOp b) x y H Q
  | .blt _ id _ => uC X (.builtin id) vs H Q
  | .typ _ T _ => uC X (.type T) vs H Q
  | .mth _ _ id _ => ∃ x xs, vs = x :: xs ∧ uM X id x xs H Q
  | .spec => uSp W X o vs H Q
end
end Z

namespace Z
open PySem L2 PySem.Spec PyProof.Rows
structure Ft (X : Cx) (W : Wr) (t : Tb) (l : Lc) : Prop where
  K : X.K = W.K
  N : X.N = l.N
  nd : l.N.Nodup
  sc : X.env.scope = l.sc
  calm : l.hot = false → X.calm = true
  un : X.A.units + 64 < cLine
  free : ∀ x ∈ t.free, X.mg x = none
  con : ∀ x d, (x, d) ∈ t.con → ∃ v u, X.mg x = some u ∧ RelV v u ∧ ∀ (ρ : Rho) (G : Hp), Rv W ρ G d v
  fl : ∀ c f, f ∈ t.flds → Cls W.K (W.cl c) ∧ NoAttr W.K (W.cl c) f
def tyq (X : Cx) (o : Op) (v : V) (H : Hp) : Prop := match opK o with
  | .mth T _ _ _ => tyV X.K T v H
  | _ => True
structure MthOk (T : String) (nm : Str) (id : String) : Prop where
  pa : PlainAttrs T
  slot : Slot T nm id
  ty : typeOf (.builtin id) = pure (.type "method_descriptor")
theorem mth_ok {o : Op} {T : String} {nm : Str} {id : String} {n : Nat} (h : opK o = .mth T nm id n) : MthOk T nm id ∧ 0 < n ∧ n < 20 := by
  cases o <;> first
    | (exfalso; cases h; done)
    | skip
  all_goals (cases h; first
    | exact ⟨⟨PySem.F.plainAttrs_str, PySem.F.slot_str_join, PySem.F.type_str_join⟩, by decide, by decide⟩
    | exact ⟨⟨PySem.F.plainAttrs_str, PySem.F.slot_str_split, PySem.F.type_str_split⟩, by decide, by decide⟩
    | exact ⟨⟨PySem.F.plainAttrs_str, PySem.F.slot_str_find, PySem.F.type_str_find⟩, by decide, by decide⟩
    | exact ⟨⟨PySem.F.plainAttrs_list, PySem.F.slot_list_index, PySem.F.type_list_index⟩, by decide, by decide⟩
    | exact ⟨⟨PySem.F.plainAttrs_list, PySem.F.slot_list_count, PySem.F.type_list_count⟩, by decide, by decide⟩
    | exact ⟨⟨PySem.F.plainAttrs_dict, PySem.F.slot_dict_get, PySem.F.type_dict_get⟩, by decide, by decide⟩)
theorem blt_ok {o : Op} {nm : Str} {id : String} {n : Nat} (h : opK o = .blt nm id n) : bootBuiltins nm = some (.builtin id) ∧ nm ≠ "__name__" ∧ (nm == ("__debug__" : Str)) = false ∧ 0 < n := by
  cases o <;> first
    | (exfalso; cases h; done)
    | skip
  all_goals (cases h; exact ⟨by decide +kernel, by decide +kernel, by decide +kernel, by decide⟩)
theorem typ_ok {o : Op} {nm : Str} {T : String} {n : Nat} (h : opK o = .typ nm T n) : bootBuiltins nm = some (.type T) ∧ nm ≠ "__name__" ∧ (nm == ("__debug__" : Str)) = false ∧ 0 < n := by
  cases o <;> first
    | (exfalso; cases h; done)
    | skip
  all_goals (cases h; exact ⟨by decide +kernel, by decide +kernel, by decide +kernel, by decide⟩)
theorem tyn_ok (n : Nat) : bootBuiltins (Str.ofString (tyName n)) = some (.type (tyName n)) ∧ Str.ofString (tyName n) ≠ "__name__" ∧ (Str.ofString (tyName n) == ("__debug__" : Str)) = false := by
  rcases n with _ | _ | _ | _ | n
  · exact ⟨by decide +kernel, by decide +kernel, by decide +kernel⟩
  · exact ⟨by decide +kernel, by decide +kernel, by decide +kernel⟩
  · exact ⟨by decide +kernel, by decide +kernel, by decide +kernel⟩
  · exact ⟨by decide +kernel, by decide +kernel, by decide +kernel⟩
  · show bootBuiltins (Str.ofString "tuple") = some (.type "tuple") ∧ Str.ofString "tuple" ≠ "__name__" ∧ (Str.ofString "tuple" == ("__debug__" : Str)) = false
    exact ⟨by decide +kernel, by decide +kernel, by decide +kernel⟩
theorem noSl_plain {b : Expr} (h : noSl b = true) : PlainIx b := by
  cases b <;> first
    | (intro o i; rfl)
    | cases h
theorem base_plain {o : Expr} {m : Str} {env : Env} (h : plainBase o = true) : attributeBase o m env (eval o env) = eval o env := by
  unfold plainBase at h
  split at h
  · cases h
  · rename_i hn
    cases o <;> first
      | rfl
      | skip
    rename_i f as ks p
    cases f <;> first
      | rfl
      | skip
    cases as with
    | cons _ _ => rfl
    | nil => cases ks with
      | cons _ _ => rfl
      | nil => exact absurd rfl (hn _ _ _)
section
variable {X : Cx} {W : Wr} {t : Tb} {l : Lc} {o : Op} {x : Expr} {xs : List Expr} {σ : L2.St} {H : Hp} {Q : VK}
theorem glo_of (F : Ft X W t l) {y : Str} (h : gloB l y = true) : Gl X y := by
  show X.env.scope.names.lookup y = some .globalImplicit
  rw [F.sc]
  exact of_decide_eq_true h
theorem pe_slice2 {r : V → Option Int → Option Int → Hp → VK → Prop} {e a b : Expr} {te ta tb : TE} {pos p2 : Pos} (hr : SlR X r) (he : PE X e te) (hl : PE X a ta) (hu : PE X b tb) :
    PE X (.Subscript e (.Slice (some a) (some b) none p2) pos) (fun σ H Q => te σ H fun x H1 => ta σ H1 fun u H2 => tb σ H2 fun w H3 => ∃ i j, u = .int i ∧ w = .int j ∧ r x (some i) (some j) H3 Q) := by
  refine ⟨fun pins s σ H Q I h => ?_⟩
  refine Subscript_ (thn (he.run pins s σ H _ I h) fun v s1 ⟨x, H1, I1, r1, q1⟩ => ?_)
  refine wpAny_Slice ?_
  rw [evalPart_some, evalPart_some]
  refine thn (hl.run pins s1 σ H1 _ I1 q1) fun vl s2 ⟨l, H2, I2, pl, q2⟩ => thn (hu.run pins s2 σ H2 _ I2 q2) fun vu s3 ⟨u, H3, I3, pu, q3⟩ => ?_
  obtain ⟨i, j, rfl, rfl, q3⟩ := q3
  obtain ⟨ti, rfl⟩ := pl
  obtain ⟨tj, rfl⟩ := pu
  rw [evalPart_none]
  refine wpAny_pure ?_
  have I4 : Inv X pins σ H3 { s3 with heap := s3.heap.push { cls := .type "slice", data := .fields #[.int i ti, .int j tj, .none] } } := I3.kept (t' := s3.toks) fun b ob q => Heap.get?_push_of_some _ q
  obtain ⟨T, id, hT, ht, hg⟩ := hr pins { s3 with heap := s3.heap.push { cls := .type "slice", data := .fields #[.int i ti, .int j tj, .none] } } σ H3 x v (.int i ti) (.int j tj) (some i) (some j) s3.heap.objs.size Q I4 r1 (Heap.IsSliceOf.new ..) (.int i ti) (.int j tj) q3
  show wpAny (model X.prog X.w) X.A (subscriptTail e (.Slice (some a) (some b) none p2) v (.ref s3.heap.objs.size)) (EP X pins σ Q) X.xe { s3 with heap := s3.heap.push { cls := .type "slice", data := .fields #[.int i ti, .int j tj, .none] } }
  exact tail_any (ops := [.ref s3.heap.objs.size, v]) ht hT hg (by with_unfolding_all rfl)
theorem opSp (F : Ft X W t l) (e : mSp t l o x = some xs) (h : match xs with
    | [] => uSp W X o [] H Q
    | a :: as => uE X a σ H fun v H1 => uL X as σ H1 fun vs H2 => uSp W X o (v :: vs) H2 Q) : uE X x σ H Q := by
  unfold mSp at e
  split at e
  · cases e
    refine uE_of (pe_un uU_ok pe_u) (uE.mono h fun v H1 q => ?_)
    obtain ⟨_, e1, q⟩ := q
    cases e1; exact q
  · cases e
    refine uE_of (pe_notT pe_u) (uE.mono h fun v H1 q => ?_)
    obtain ⟨_, e1, q⟩ := q
    cases e1; exact q
  · cases e
    refine uE_of (pe_cmpR op_isN pe_u pe_non (nomark _)) (uE.mono h fun v H1 q => ?_)
    obtain ⟨_, e1, q⟩ := q
    cases e1; exact ⟨rfl, q⟩
  · cases e
    refine uE_of (pe_cmpR op_notN pe_u pe_non (nomark _)) (uE.mono h fun v H1 q => ?_)
    obtain ⟨_, e1, q⟩ := q
    cases e1; exact ⟨rfl, q⟩
  · obtain ⟨hs, rfl⟩ := ite_some e
    refine uE_of (pe_ix uI_ok pe_u pe_u (noSl_plain hs)) (uE.mono h fun v H1 q => uE.mono (show uE X _ σ H1 _ from q) fun u H2 q => ?_)
    obtain ⟨_, _, e1, q⟩ := (show uSp W X .idx [v, u] H2 Q from q)
    cases e1; exact q
  · cases e
    refine uE_of (pe_slice uS_ok pe_u po_none po_none) (uE.mono h fun v H1 q => ?_)
    obtain ⟨_, e1, q⟩ := q
    cases e1; exact q
  · cases e
    refine uE_of (pe_slice uS_ok pe_u (po_some pe_u) po_none) (uE.mono h fun v H1 q => uE.mono (show uE X _ σ H1 _ from q) fun u H2 q => ?_)
    obtain ⟨_, i, e1, q'⟩ := (show uSp W X (.sl true false) [v, u] H2 Q from q)
    cases e1; exact ⟨i, rfl, q'⟩
  · cases e
    refine uE_of (pe_slice uS_ok pe_u po_none (po_some pe_u)) (uE.mono h fun v H1 q => uE.mono (show uE X _ σ H1 _ from q) fun u H2 q => ?_)
    obtain ⟨_, i, e1, q'⟩ := (show uSp W X (.sl false true) [v, u] H2 Q from q)
    cases e1; exact ⟨i, rfl, q'⟩
  · cases e
    refine uE_of (pe_slice2 uS_ok pe_u pe_u pe_u) (uE.mono h fun v H1 q => uE.mono (show uE X _ σ H1 _ from q) fun u H2 q => uE.mono (show uE X _ σ H2 _ from q) fun w H3 q => ?_)
    obtain ⟨_, i, j, e1, q'⟩ := (show uSp W X (.sl true true) [v, u, w] H3 Q from q)
    cases e1; exact ⟨i, j, rfl, rfl, q'⟩
  · obtain ⟨⟨rfl, rfl, g1, f1, g2, f2, p1⟩, rfl⟩ := ite_some e
    obtain ⟨b1, b2, b3⟩ := tyn_ok ‹Nat›
    refine uE_of (pe_callB (id := "isinstance") uC_ok (glo_of F g1) (F.free _ f1) (by decide +kernel) (pa_cons pe_u (pa_cons (pe_bltn (v := .ty _) (glo_of F g2) (F.free _ f2) b1 rfl b2 b3) pa_nil) (star_cons p1)) (by decide +kernel) (by decide +kernel) (star_cons p1) (star_any (es := [.Name _ _]) rfl)) (uE.mono h fun v H1 q => ?_)
    obtain ⟨_, e1, q⟩ := q
    cases e1; exact q
  · obtain ⟨hp, e2⟩ := ite_some e
    rw [e2] at hp ⊢
    refine uE_of (pe_tup (pa_u hp)) ?_
    cases xs with
    | nil => exact h
    | cons a as => exact uE.mono h fun v H1 q => uL.mono q fun vs H2 q => (show uSp W X _ _ _ _ from q)
  · obtain ⟨hp, e2⟩ := ite_some e
    rw [e2] at hp ⊢
    refine uE_of (pe_lst (pa_u hp)) ?_
    cases xs with
    | nil => exact h
    | cons a as => exact uE.mono h fun v H1 q => uL.mono q fun vs H2 q => (show uSp W X _ _ _ _ from q)
  · cases e
    exact uE_of pe_dnewK (h)
  · cases e
    exact uE_of pe_dnewT (h)
  · obtain ⟨⟨rfl, hf, hb⟩, rfl⟩ := ite_some e
    refine uE_of (pe_fld pe_u (base_plain hb)) (uE.mono h fun v H1 q => ?_)
    obtain ⟨_, a, c, dx, fs, w, e1, e2, e3, e4, q⟩ := (show uSp W X (.fld _) [v] H1 Q from q)
    cases e1
    have z := F.fl c _ hf
    rw [← F.K] at z
    exact ⟨a, _, dx, fs, w, e2, e3, z.1, z.2, e4, q⟩
  · cases e
theorem opS (F : Ft X W t l) (e : mOp t l o x = some xs) (h : match xs with
    | [] => uOp W X o [] H Q
    | a :: as => uE X a σ H fun v H1 => tyq X o v H1 ∧ uL X as σ H1 fun vs H2 => uOp W X o (v :: vs) H2 Q) : uE X x σ H Q := by
  have un1 : X.A.units + 1 < cLine := by have := F.un; omega
  unfold mOp at e
  cases hk : opK o with
  | bin b =>
    rw [hk] at e
    obtain ⟨a, c, pos, rfl, rfl⟩ := mBin_some e
    refine uE_of (pe_op uO_ok pe_u pe_u) ?_
    refine uE.mono h fun v H1 ⟨_, q⟩ => ?_
    refine uE.mono (show uE X c σ H1 _ from q) fun u H2 q => ?_
    have q' : uOp W X o [v, u] H2 Q := q
    unfold uOp at q'
    rw [hk] at q'
    obtain ⟨y, z, e1, q⟩ := q'
    cases e1
    exact q
  | cmp b =>
    rw [hk] at e
    obtain ⟨a, c, pos, rfl, rfl, hm⟩ := mCmp_some e
    refine uE_of (pe_cmpR uO_ok pe_u pe_u hm) ?_
    refine uE.mono h fun v H1 ⟨_, q⟩ => ?_
    refine uE.mono (show uE X c σ H1 _ from q) fun u H2 q => ?_
    have q' : uOp W X o [v, u] H2 Q := q
    unfold uOp at q'
    rw [hk] at q'
    obtain ⟨y, z, e1, q⟩ := q'
    cases e1
    exact q
  | blt nm id n =>
    rw [hk] at e
    obtain ⟨p, pos, rfl, hl, hg, hf, hp⟩ := mCallN_some e
    obtain ⟨b1, b2, b3, b4⟩ := blt_ok hk
    cases xs with
    | nil => rw [← hl] at b4; exact absurd b4 (Nat.lt_irrefl _)
    | cons a as =>
      obtain ⟨hp1, hp2⟩ := Bool.and_eq_true_iff.mp (show (plainE a && as.all plainE) = true from hp)
      refine uE_of (pe_callB uC_ok (glo_of F hg) (F.free _ hf) b1 (pa_u hp) b2 b3 (star_cons hp1) (star_any hp2)) ?_
      refine uE.mono h fun v H1 ⟨_, q⟩ => uL.mono q fun vs H2 q => ?_
      unfold uOp at q
      rw [hk] at q
      exact q
  | typ nm T n =>
    rw [hk] at e
    obtain ⟨p, pos, rfl, hl, hg, hf, hp⟩ := mCallN_some e
    obtain ⟨b1, b2, b3, b4⟩ := typ_ok hk
    cases xs with
    | nil => rw [← hl] at b4; exact absurd b4 (Nat.lt_irrefl _)
    | cons a as =>
      obtain ⟨hp1, hp2⟩ := Bool.and_eq_true_iff.mp (show (plainE a && as.all plainE) = true from hp)
      refine uE_of (pe_callTy uC_ok (glo_of F hg) (F.free _ hf) b1 (pa_u hp) b2 b3 (star_cons hp1) (star_any hp2)) ?_
      refine uE.mono h fun v H1 ⟨_, q⟩ => uL.mono q fun vs H2 q => ?_
      unfold uOp at q
      rw [hk] at q
      exact q
  | mth T nm id n =>
    rw [hk] at e
    obtain ⟨r, ap, as, cp, rfl, rfl, hl, hp, hb, hli⟩ := mMth_some e
    obtain ⟨⟨m1, m2, m3⟩, m4, m5⟩ := mth_ok hk
    cases as with
    | nil => rw [← hl] at m4; exact absurd m4 (Nat.lt_irrefl _)
    | cons a as =>
      obtain ⟨hp1, hp2⟩ := Bool.and_eq_true_iff.mp (show (plainE a && as.all plainE) = true from hp)
      refine uE_of (pe_bm m1 m2 m3 uM_ok pe_u (pa_u hp) (base_plain hb) ?_ hli (star_cons hp1) (star_any hp2)) ?_
      · rw [star_all hp]
        simp only [Bool.true_and, Bool.and_eq_true, decide_eq_true_eq]
        refine ⟨by rfl, ?_⟩
        rw [hl]
        show n + 0 + 0 < 30
        omega
      · refine uE.mono h fun v H1 ⟨ty, q⟩ => ⟨?_, uL.mono q fun vs H2 q => ?_⟩
        · unfold tyq at ty
          rw [hk] at ty
          exact ty
        · unfold uOp at q
          rw [hk] at q
          obtain ⟨_, _, e1, q⟩ := q
          cases e1
          exact q
  | spec =>
    rw [hk] at e
    refine opSp F e ?_
    have huo : ∀ vs H, uOp W X o vs H Q → uSp W X o vs H Q := fun vs H q => by
      unfold uOp at q; rw [hk] at q; exact q
    cases xs with
    | nil => exact huo _ _ h
    | cons a as => exact uE.mono h fun v H1 ⟨_, q⟩ => uL.mono q fun vs H2 q => huo _ _ q
end
end Z

namespace Z
open PySem L2 PySem.Spec PyProof.Rows
/-- how a container stands: its children's values -/
def Sh (W : Wr) (H : Hp) (d : D) (v : V) (vs : List V) : Prop := match d with
  | .tup _ => ∃ a, v = .ref a ∧ H a = some (.tup vs)
  | .lst _ => ∃ a, v = .ref a ∧ SqL W.K H a vs
  | .dK ks _ => ∃ a kvs, v = .ref a ∧ H a = some (.dK kvs) ∧ kvs.map (·.1) = ks ∧ vs = kvs.map (·.2)
  | .dT ks _ => ∃ a kvs, v = .ref a ∧ H a = some (.dT kvs) ∧ kvs.map (·.1) = ks ∧ vs = kvs.map (·.2)
  | .obj c fs _ => ∃ a dx l, v = .ref a ∧ H a = some (.ins (W.cl c) dx l) ∧ l.map (·.1) = fs ∧ vs = l.map (·.2)
  | _ => False
def isCt : D → Bool
  | .tup _ | .lst _ | .dK _ _ | .dT _ _ | .obj _ _ _ => true
  | _ => false
section
variable {W : Wr} {g g' g1 g2 : Gh} {S S' S1 S2 : Sto} {H H' H1 H2 : Hp} {T T1 T2 N : Addr → Prop} {X : Cx} {v u x y : V} {f f1 f2 : List Addr} {Q : VK} {a b r : Vd}
theorem Sh.mono (e : Ex H H') : ∀ {d : D} {vs : List V}, Sh W H d v vs → Sh W H' d v vs
  | .tup _, _, ⟨a, h1, h2⟩ => ⟨a, h1, e _ _ h2⟩
  | .lst _, _, ⟨a, h1, h2⟩ => ⟨a, h1, ex_l e h2⟩
  | .dK _ _, _, ⟨a, k, h1, h2, h3⟩ => ⟨a, k, h1, e _ _ h2, h3⟩
  | .dT _ _, _, ⟨a, k, h1, h2, h3⟩ => ⟨a, k, h1, e _ _ h2, h3⟩
  | .obj _ _ _, _, ⟨a, dx, k, h1, h2, h3⟩ => ⟨a, dx, k, h1, e _ _ h2, h3⟩
  | .non, _, h => h.elim
  | .bl _, _, h => h.elim
  | .int _, _, h => h.elim
  | .str _, _, h => h.elim
  | .bx _, _, h => h.elim
theorem Rv.sh {ρ : Rho} {G : Hp} : ∀ {d : D}, isCt d = true → Rv W ρ G d v → ∃ vs, Sh W G d v vs ∧ RvL W ρ G d.kids vs
  | .tup _, _, ⟨a, vs, h1, h2, h3⟩ => ⟨vs, ⟨a, h1, h2⟩, h3⟩
  | .lst _, _, ⟨a, vs, h1, h2, h3⟩ => ⟨vs, ⟨a, h1, h2⟩, h3⟩
  | .dK _ _, _, ⟨a, vs, h1, h2, h4, h3⟩ => ⟨_, ⟨a, vs, h1, h2, h4, rfl⟩, h3⟩
  | .dT _ _, _, ⟨a, vs, h1, h2, h4, h3⟩ => ⟨_, ⟨a, vs, h1, h2, h4, rfl⟩, h3⟩
  | .obj _ _ _, _, ⟨a, dx, l, h1, h2, h4, h3⟩ => ⟨_, ⟨a, dx, l, h1, h2, h4, rfl⟩, h3⟩
  | .non, h, _ => by cases h
  | .bl _, h, _ => by cases h
  | .int _, h, _ => by cases h
  | .str _, h, _ => by cases h
  | .bx _, h, _ => by cases h
theorem Rt.sh {ρ : Rho} {G : Hp} (e : Ex G H) : ∀ {d : D} {k : Nat}, isCt d = true → Rt W ρ G H d (k + 1) v f → ∃ vs f0, Sh W H d v vs ∧ RtL W ρ G H d.kids k vs f0 ∧ f0.Sublist f
  | .tup _, k, _, ⟨a, vs, h1, h2, h3⟩ => ⟨vs, f, ⟨a, h1, e _ _ h2⟩, h3, List.Sublist.refl _⟩
  | .lst _, k, _, ⟨a, vs, g, h1, h2, h3, h4⟩ => ⟨vs, g, ⟨a, h1, .inl (.inl h3)⟩, h4, by rw [h2]; exact List.sublist_cons_self _ _⟩
  | .dK _ _, k, _, ⟨a, vs, g, h1, h2, h3, h5, h4⟩ => ⟨_, g, ⟨a, vs, h1, h3, h5, rfl⟩, h4, by rw [h2]; exact List.sublist_cons_self _ _⟩
  | .dT _ _, k, _, ⟨a, vs, g, h1, h2, h3, h5, h4⟩ => ⟨_, g, ⟨a, vs, h1, h3, h5, rfl⟩, h4, by rw [h2]; exact List.sublist_cons_self _ _⟩
  | .obj _ _ _, k, _, ⟨a, dx, vs, g, h1, h2, h3, h5, h4⟩ => ⟨_, g, ⟨a, dx, vs, h1, h3, h5, rfl⟩, h4, by rw [h2]; exact List.sublist_cons_self _ _⟩
  | .non, _, h, _ => by cases h
  | .bl _, _, h, _ => by cases h
  | .int _, _, h, _ => by cases h
  | .str _, _, h, _ => by cases h
  | .bx _, _, h, _ => by cases h
theorem Rt.shk {ρ : Rho} {G : Hp} (e : Ex G H) {j : Nat} {x : D} : ∀ {d : D} {k : Nat}, Rt W ρ G H d (k + 1) v f → d.kids[j]? = some x → ∃ vs u, Sh W H d v vs ∧ vs.length = d.kids.length ∧ vs[j]? = some u ∧ Kid W G H j d v x u
  | .tup _, k, ⟨a, vs, h1, h2, h3⟩, q => by
    obtain ⟨u, _, _, _, w, _⟩ := h3.get q
    exact ⟨vs, u, ⟨a, h1, e _ _ h2⟩, (RtL.read e h3).length, w, a, vs, h1, h2, q, w⟩
  | .lst _, k, ⟨a, vs, g, h1, h2, h3, h4⟩, q => by
    obtain ⟨u, _, _, _, w, _⟩ := h4.get q
    exact ⟨vs, u, ⟨a, h1, .inl (.inl h3)⟩, (RtL.read e h4).length, w, a, vs, h1, h3, q, w⟩
  | .dK _ _, k, ⟨a, vs, g, h1, h2, h3, h5, h4⟩, q => by
    obtain ⟨u, _, _, _, w, _⟩ := h4.get q
    exact ⟨_, u, ⟨a, vs, h1, h3, h5, rfl⟩, (RtL.read e h4).length, w, a, vs, h1, h3, q, w⟩
  | .dT _ _, k, ⟨a, vs, g, h1, h2, h3, h5, h4⟩, q => by
    obtain ⟨u, _, _, _, w, _⟩ := h4.get q
    exact ⟨_, u, ⟨a, vs, h1, h3, h5, rfl⟩, (RtL.read e h4).length, w, a, vs, h1, h3, q, w⟩
  | .obj _ _ _, k, ⟨a, dx, vs, g, h1, h2, h3, h5, h4⟩, q => by
    obtain ⟨u, _, _, _, w, _⟩ := h4.get q
    exact ⟨_, u, ⟨a, dx, vs, h1, h3, h5, rfl⟩, (RtL.read e h4).length, w, a, dx, vs, h1, h3, q, w⟩
  | .non, _, _, h => by simp [D.kids] at h
  | .bl _, _, _, h => by simp [D.kids] at h
  | .int _, _, _, h => by simp [D.kids] at h
  | .str _, _, _, h => by simp [D.kids] at h
  | .bx _, _, _, h => by simp [D.kids] at h
theorem isCt_kids {d x : D} {j : Nat} (h : d.kids[j]? = some x) : isCt d = true := by
  cases d <;> first
    | rfl
    | (simp [D.kids] at h)
theorem kid_rk (R : Rg W g S H) {k k' : Kd} {d x : D} {j : Nat} (h : RK W g S H (k, d) v f) (hj : d.kids[j]? = some x) (hk : kidK S k j = some k') :
    ∃ vs u f', Sh W H d v vs ∧ vs.length = d.kids.length ∧ vs[j]? = some u ∧ f'.Sublist f ∧ RK W g S H (k', x) u f' := by
  have ct := isCt_kids hj
  cases k with
  | vl l =>
    cases hk
    obtain ⟨e, h⟩ := h
    obtain ⟨vs, s1, s2⟩ := h.sh ct
    obtain ⟨u, u1, u2⟩ := s2.get hj
    exact ⟨vs, u, [], s1.mono (R.G_h l), s2.length, u1, by simp, rfl, u2⟩
  | fr n l =>
    cases n with
    | zero =>
      cases hk
      obtain ⟨e, h⟩ := Rt.freeze0 h
      obtain ⟨vs, s1, s2⟩ := h.sh ct
      obtain ⟨u, u1, u2⟩ := s2.get hj
      exact ⟨vs, u, [], s1.mono (R.G_h l), s2.length, u1, by simp, rfl, u2⟩
    | succ n =>
      obtain ⟨vs, f0, s1, s2, s3⟩ := Rt.sh (R.G_h l) ct h
      obtain ⟨u, pre, fx, post, u1, u2, u3, _⟩ := s2.get hj
      have ln : vs.length = d.kids.length := (RtL.read (R.G_h l) s2).length
      cases n with
      | zero =>
        cases hk
        exact ⟨vs, u, [], s1, ln, u1, by simp, rfl, (Rt.freeze0 u3).2⟩
      | succ n =>
        cases hk
        refine ⟨vs, u, fx, s1, ln, u1, ?_, u3⟩
        rw [u2] at s3
        exact List.Sublist.trans (by rw [List.append_assoc]; exact (List.sublist_append_left _ _).trans (List.sublist_append_right _ _)) s3
  | tn n p =>
    obtain ⟨hf, b, a, k0, h1, h2, h3⟩ := h
    have h1' : S[n]? = some (some b) := h1
    simp only [kidK, h1', Option.some.injEq] at hk
    obtain ⟨a', e1, e2⟩ := R.box n b h1
    rw [h2] at e1; cases e1
    obtain ⟨_, fx, _, _, e3, _⟩ := e2.focus h3
    have hl := h3.len
    by_cases q : p.length + 1 < b.dp
    · rw [if_pos q] at hk; subst hk
      obtain ⟨k1, rfl⟩ : ∃ k1, k0 = k1 + 1 := ⟨k0 - 1, by omega⟩
      obtain ⟨vs, u, s1, s2, s3, hu⟩ := Rt.shk (R.G_h _) e3 hj
      exact ⟨vs, u, [], s1, s2, s3, by simp, rfl, b, a, k1, h1, h2, Pt.snoc h3 hu⟩
    · rw [if_neg q] at hk; subst hk
      cases k0 with
      | zero =>
        obtain ⟨_, e3⟩ := Rt.freeze0 e3
        obtain ⟨vs, s1, s2⟩ := e3.sh ct
        obtain ⟨u, u1, u2⟩ := s2.get hj
        exact ⟨vs, u, [], s1.mono (R.G_h _), s2.length, u1, by simp, rfl, u2⟩
      | succ k0 =>
        have : k0 = 0 := by omega
        subst this
        obtain ⟨vs, f0, s1, s2, s3⟩ := Rt.sh (R.G_h _) ct e3
        have ln := (RtL.read (R.G_h _) s2).length
        obtain ⟨u, u1, u2⟩ := (RtL.freeze0 s2).get hj
        exact ⟨vs, u, [], s1, ln, u1, by simp, rfl, u2⟩
end
end Z

namespace Z
open PySem L2 PySem.Spec PyProof.Rows
section
variable {W : Wr} {g g' g1 g2 : Gh} {S S' S1 S2 : Sto} {H H' H1 H2 : Hp} {T T1 T2 N : Addr → Prop} {X : Cx} {v u x y : V} {f f1 f2 : List Addr} {Q : VK} {a b r : Vd}
/-- a child is handed on -/
theorem Po.kid (R : Rg W g S H) (fr : Fre g S N f) {f' : List Addr} (s : f'.Sublist f) {k : Kd} {x : D} (rk : RK W g S H (k, x) u f') (po : Po W g S H f (norm (k, x)) Q) : Q u H := by
  obtain ⟨f'', s2, rk2⟩ := rk.norm R
  exact po g H u f'' R Gr.refl (Ex.refl H) rk2 ((fr.sub (s2.trans s)).imp fun a ha _ => .inl ((s2.trans s).subset ha))
theorem Po.same1 (R : Rg W g S H) (fr : Fre g S N f) {f' : List Addr} (s : f'.Sublist f) (rk : RK W g S H a u f') (po : Po W g S H f a Q) : Q u H :=
  po g H u f' R Gr.refl (Ex.refl H) rk ((fr.sub s).imp fun a ha _ => .inl (s.subset ha))
/-- a new list of flat things -/
theorem Po.lstN (R : Rg W g S H) {ys : List D} {us : List V} {p : Addr} (h : RvL W g.r g.F ys us) (hp : H p = none) (po : Po W g S H f (.fr 1 false, .lst ys) Q) : Q (.ref p) (upd H p (.lst us)) :=
  Po.lst (l := false) R Gr.refl h hp po
theorem ix_dict (hu : X.A.units + 1 < cLine) : IxR X (fun x y H Q => ∃ a v, x = .ref a ∧ DGet H a y (some v) ∧ Q v H) := by
  intro value slice pins s σ H x y v u Q I rx ry h hs
  obtain ⟨a, w, rfl, g, q⟩ := h
  obtain rfl : v = Value.ref a := rx
  have hT := dict_typeIs I g
  unfold subscriptTail
  refine wpAny_bind ?_
  rw [getitemInPython_of_ne hT.not_modules]
  refine wpAny_bind (wpAny_specialOf hT PySem.F.slot_dict_getitem.lookup ?_)
  have fin : wpAny (model X.prog X.w) X.A (subscripted slice false (.ref a) u) (fun r s₃ => wpAny (model X.prog X.w) X.A (letTemporaryGo value (.ref a) r >>= fun _ => pure r) (EP X pins σ Q) X.xe s₃) X.xe s := by
    rw [hs]
    exact wpAny_operating (d_getItem hu I g ry fun w' s3 I3 rw' => wpAny_bind (wpAny_letTemporaryGo (wpAny_pure ⟨w, H, I3, rw', q⟩)))
  first
    | exact wpAny_pure (wpAny_bind fin)
    | exact wpAny_bind (wpAny_pure (wpAny_bind fin))
    | exact wpAny_bind fin
theorem op_in_dict (hu : X.A.units + 1 < cLine) : OpR X (compareOp .In) (fun y x H Q => ∃ a o, x = .ref a ∧ DGet H a y o ∧ Q (.bl o.isSome) H) := by
  intro pins s σ H y x v u Q I ry rx h
  obtain ⟨a, o, rfl, g, q⟩ := h
  obtain rfl : u = Value.ref a := rx
  exact d_in hu I g ry fun s3 I3 => ⟨.bl o.isSome, H, I3, rfl, q⟩
theorem op_notIn_dict (hu : X.A.units + 1 < cLine) : OpR X (compareOp .NotIn) (fun y x H Q => ∃ a o, x = .ref a ∧ DGet H a y o ∧ Q (.bl (!o.isSome)) H) := by
  intro pins s σ H y x v u Q I ry rx h
  obtain ⟨a, o, rfl, g, q⟩ := h
  obtain rfl : u = Value.ref a := rx
  exact d_notIn hu I g ry fun s3 I3 => ⟨.bl (!o.isSome), H, I3, rfl, q⟩
theorem mt_dget (hu : X.A.units + 1 < cLine) : MtR X "dict.get" (fun x xs H Q => ∃ a o, x = .ref a ∧ ((∃ y, xs = [y] ∧ DGet H a y o ∧ Q (o.getD .non) H) ∨ ∃ y z, xs = [y, z] ∧ DGet H a y o ∧ Q (o.getD z) H)) := by
  intro pins s σ H x xs v us Q I rx rs h
  obtain ⟨a, o, rfl, h⟩ := h
  obtain rfl : v = Value.ref a := rx
  rcases h with ⟨y, rfl, g, q⟩ | ⟨y, z, rfl, g, q⟩
  · obtain ⟨u1, rfl, r1⟩ := Vals.one rs
    exact d_get1 hu I g r1 fun w' s3 I3 rw' => ⟨_, H, I3, rw', q⟩
  · obtain ⟨u1, u2, rfl, r1, r2⟩ := Vals.two rs
    exact d_get2 hu I g r1 r2 fun w' s3 I3 rw' => ⟨_, H, I3, rw', q⟩
/-- a key asked of a dict that stands so -/
theorem dget_sh (R : Rg W g S H) {d : D} {vs : List V} (h : Sh W H d x vs) (h2 : RK W g S H b y f2) {o : Option Nat} (e : dPos d b.2 = some o) : ∃ c, x = .ref c ∧ DGet H c y (o.bind fun j => vs[j]?) := by
  have r2 := h2.read R
  obtain ⟨k2, d2⟩ := b
  cases d <;> first
    | (exfalso; cases d2 <;> (have z : (none : Option (Option Nat)) = some o := e; cases z))
    | skip
  · rename_i ks xs
    obtain ⟨c, kvs, q1, q2, q3, rfl⟩ := h
    obtain ⟨k, e1, e2⟩ := Option.map_eq_some_iff.mp (show d2.key.map (fun k => posOf ks k) = some o by cases d2 <;> exact e)
    have ey := Rv.key r2 e1
    have ev := valV_pos k kvs
    rw [q3, e2] at ev
    exact ⟨c, q1, by rw [ey, ← ev]; exact DGet.k q2⟩
  · rename_i ks xs
    obtain ⟨c, kvs, q1, q2, q3, rfl⟩ := h
    cases d2 <;> first
      | (exfalso; have z : (none : Option (Option Nat)) = some o := e; cases z)
      | skip
    rename_i ys
    obtain ⟨k, e1, e2⟩ := Option.map_eq_some_iff.mp (show (keyL ys).map (fun k => posOf ks k) = some o from e)
    obtain ⟨t, ts, t1, t2, t3⟩ := r2
    have ey := RvL.key t3 e1
    have ev := valV_pos k kvs
    rw [q3, e2] at ev
    exact ⟨c, q1, by rw [t1, ← ev]; exact DGet.t q2 (by rw [t2, ey])⟩
theorem kid_some {k : Kd} {xs : List D} {i : Int} {r : Vd} (e : kid S k xs i = some r) : ∃ j d k', ixN xs.length i = some j ∧ xs[j]? = some d ∧ kidK S k j = some k' ∧ r = norm (k', d) := by
  unfold kid at e
  obtain ⟨j, e1, e⟩ := Option.bind_eq_some_iff.mp e
  obtain ⟨d, e2, e⟩ := Option.bind_eq_some_iff.mp e
  obtain ⟨k', e3, e⟩ := Option.map_eq_some_iff.mp e
  exact ⟨j, d, k', e1, e2, e3, e.symm⟩
theorem ixN_nat {n j j' : Nat} (h : ixN n (j : Int) = some j') : j' = j ∧ j < n := by
  unfold ixN at h
  rw [if_pos (Int.natCast_nonneg j)] at h
  by_cases q : (j : Int) < n
  · rw [if_pos q] at h; cases h
    exact ⟨by simp, by omega⟩
  · rw [if_neg q] at h; cases h
theorem opIdx_ok (hK : X.K = W.K) (hu : X.A.units + 1 < cLine) (R : Rg W g S H) (h1 : RK W g S H a x f1) (h2 : RK W g S H b y f2) (fr : Fre g S N (f1 ++ f2)) (e : opIdx S a b = some r) (po : Po W g S H (f1 ++ f2) r Q) : uI X x y H Q := by
  obtain ⟨k1, d1⟩ := a
  obtain ⟨k2, d2⟩ := b
  have dct : (dPos d1 d2).bind (fun o => o.bind fun j => kid S k1 d1.kids j) = some r → uI X x y H Q := fun e => by
    obtain ⟨o, e1, e⟩ := Option.bind_eq_some_iff.mp e
    obtain ⟨j, rfl, e⟩ := Option.bind_eq_some_iff.mp e
    obtain ⟨j', d, k', q1, q2, q3, rfl⟩ := kid_some e
    obtain ⟨rfl, hj⟩ := ixN_nat q1
    obtain ⟨vs, w, f', s1, s2, s3, s4, s5⟩ := kid_rk R h1 q2 q3
    obtain ⟨c, rfl, dg⟩ := dget_sh R s1 h2 e1
    have dg' : DGet H c y (some w) := by rw [← s3]; exact dg
    exact uI_of (ix_dict hu) ⟨c, w, rfl, dg', po.kid R fr (s4.trans (List.sublist_append_left _ _)) s5⟩
  have sq : ∀ i : Int, d2 = .int i → kid S k1 d1.kids i = some r → (∀ vs w, Sh W H d1 x vs → atI vs i = some w → Q w H → uI X x y H Q) → uI X x y H Q := fun i ei e k => by
    obtain ⟨j', d, k', q1, q2, q3, rfl⟩ := kid_some e
    obtain ⟨vs, w, f', s1, s2, s3, s4, s5⟩ := kid_rk R h1 q2 q3
    refine k vs w s1 ?_ (po.kid R fr (s4.trans (List.sublist_append_left _ _)) s5)
    unfold atI
    rw [s2, q1]
    exact s3
  cases d1 <;> first
    | (cases d2 <;> first | exact dct e | skip; done)
    | skip
  · rename_i z
    cases d2 <;> first
      | exact dct e
      | skip
    rename_i i
    have e' : (if z.length ≤ sizeLine then (atI z.cps.toList i).bind fun c => vT (.str ⟨#[c]⟩) else none) = some r := e
    by_cases q : z.length ≤ sizeLine
    · rw [if_pos q] at e'
      obtain ⟨c, e1, e2⟩ := Option.bind_eq_some_iff.mp e'
      cases e2
      exact uI_of ix_str ⟨z, i, c, rk_str R h1, rk_int R h2, q, e1, po.str R⟩
    · rw [if_neg q] at e'; cases e'
  · cases d2 <;> first
      | exact dct e
      | skip
    rename_i i
    refine sq i rfl e fun vs w s1 s2 q => ?_
    obtain ⟨c, rfl, s1⟩ := s1
    exact uI_of ix_tup ⟨c, vs, i, w, rfl, rk_int R h2, TupV.sq s1, s2, q⟩
  · cases d2 <;> first
      | exact dct e
      | skip
    rename_i i
    refine sq i rfl e fun vs w s1 s2 q => ?_
    obtain ⟨c, rfl, s1⟩ := s1
    exact uI_of ix_list ⟨c, vs, i, w, rfl, rk_int R h2, by rw [hK]; exact s1, s2, q⟩

theorem RvL.cut {ρ : Rho} {G : Hp} {xs : List D} {vs : List V} (h : RvL W ρ G xs vs) (lo hi : Option Int) : RvL W ρ G (cutD xs lo hi) (cutV vs lo hi) := by
  unfold cutD cutV
  rw [h.length]
  exact (h.drop _).take _
theorem slD_ok (hK : X.K = W.K) (R : Rg W g S H) (h1 : RK W g S H a x f) (fr : Fre g S N f) {lo hi : Option Int} (e : slD S a lo hi = some r) (po : Po W g S H f r Q) : uS X x lo hi H Q := by
  obtain ⟨k, d⟩ := a
  cases d <;> first
    | (exfalso; have z : (none : Option Vd) = some r := e; cases z)
    | skip
  · rename_i z
    have e' : (if z.length ≤ sizeLine then vT (.str (cutS z lo hi)) else none) = some r := e
    by_cases q : z.length ≤ sizeLine
    · rw [if_pos q] at e'; cases e'
      exact uS_of sl_str ⟨z, rk_str R h1, q, po.str R⟩
    · rw [if_neg q] at e'; cases e'
  · rename_i xs
    have e' : (if HT.sIx xs.length 0 lo = 0 ∧ HT.sIx xs.length xs.length hi = xs.length then none else tupK S k xs (cutD xs lo hi)) = some r := e
    by_cases q : HT.sIx xs.length 0 lo = 0 ∧ HT.sIx xs.length xs.length hi = xs.length
    · rw [if_pos q] at e'; cases e'
    · rw [if_neg q] at e'
      obtain ⟨l, s1, e2⟩ := Option.map_eq_some_iff.mp e'
      subst e2
      obtain ⟨a1, vs1, g1, e1, q1, R1, gr1, rv1⟩ := tup_rk R h1 fr s1
      exact uS_of sl_tup ⟨a1, vs1, e1, TupV.sq q1, by rw [rv1.length]; exact q, fun p hp => Po.tupl R1 gr1 (rv1.cut lo hi) hp po⟩
  · rename_i xs
    obtain ⟨l, s1, e2⟩ := Option.map_eq_some_iff.mp (show listK S k xs (cutD xs lo hi) = some r from e)
    subst e2
    obtain ⟨a1, vs1, g1, e1, q1, R1, gr1, rv1⟩ := lst_rk R h1 fr s1
    exact uS_of sl_list ⟨a1, vs1, e1, by rw [hK]; exact q1, fun p hp => Po.lst R1 gr1 (rv1.cut lo hi) hp po⟩

theorem cmpI_ok {c : CmpOp} {fn : Int → Int → Bool} (R : Rg W g S H) (h1 : RK W g S H a x f1) (h2 : RK W g S H b y f2) (e : two (opI fun i j => some (.bl (fn i j))) [a, b] = some r) (po : Po W g S H f r Q)
    (rule : ∀ (i j : Int) (Q : VK), Q (.bl (fn i j)) H → uO X (compareOp c) (.int i) (.int j) H Q) : uO X (compareOp c) x y H Q := by
  obtain ⟨k1, k2, i, j, d, rfl, rfl, q, rfl⟩ := opI_some e
  cases q
  rw [rk_int R h1, rk_int R h2]
  exact rule i j Q (po.bl R)
theorem dIn_ok (hK : X.K = W.K) (hu : X.A.units + 1 < cLine) (R : Rg W g S H) (h1 : RK W g S H a x f1) (h2 : RK W g S H b y f2) {q : Bool} (e : dIn b.2 a.2 = some q) :
    (∀ Q : VK, Q (.bl q) H → uO X (compareOp .In) x y H Q) ∧ ∀ Q : VK, Q (.bl (!q)) H → uO X (compareOp .NotIn) x y H Q := by
  have r1 := h1.read R
  have r2 := h2.read R
  obtain ⟨k1, d1⟩ := a
  obtain ⟨k2, d2⟩ := b
  have dct : (dPos d2 d1).map (·.isSome) = some q → (∀ Q : VK, Q (.bl q) H → uO X (compareOp .In) x y H Q) ∧ ∀ Q : VK, Q (.bl (!q)) H → uO X (compareOp .NotIn) x y H Q := fun e => by
    obtain ⟨o, e1, e2⟩ := Option.map_eq_some_iff.mp e
    obtain ⟨c, w, q1, q2, q3, _⟩ := dPos_get R h2 h1 e1
    subst q1
    rw [← e2, ← q3]
    exact ⟨fun Q hq => uO_of (op_in_dict hu) ⟨c, w, rfl, q2, hq⟩, fun Q hq => uO_of (op_notIn_dict hu) ⟨c, w, rfl, q2, hq⟩⟩
  have seq : ∀ (xs : List D) (p : Addr) (vs : List V), y = .ref p → (SqL X.K H p vs ∨ SqT X.K H p vs) → RvL W g.r H xs vs → (d1.flat.bind fun v => (flatL xs).map fun vs => inV v vs) = some q →
      (∀ Q : VK, Q (.bl q) H → uO X (compareOp .In) x y H Q) ∧ ∀ Q : VK, Q (.bl (!q)) H → uO X (compareOp .NotIn) x y H Q := fun xs p vs ey hs rv e => by
    obtain ⟨v, e1, e⟩ := Option.bind_eq_some_iff.mp e
    obtain ⟨ws, e2, e3⟩ := Option.map_eq_some_iff.mp e
    obtain ⟨z1, z2⟩ := r1.flat e1
    obtain ⟨z3, z4⟩ := rv.flat e2
    subst z1 z3 e3
    exact ⟨fun Q hq => uO_of op_in_seq ⟨p, vs, ey, hs, z2, z4, hq⟩, fun Q hq => uO_of op_notIn_seq ⟨p, vs, ey, hs, z2, z4, hq⟩⟩
  cases d2 <;> first
    | exact dct e
    | skip
  · cases d1 <;> first
      | exact dct e
      | skip
    rename_i z w
    cases e
    exact ⟨fun Q hq => uO_of op_in_str ⟨w, z, r1, r2, hq⟩, fun Q hq => uO_of op_notin_str ⟨w, z, r1, r2, hq⟩⟩
  · rename_i xs
    obtain ⟨p, vs, e1, e2, e3⟩ := r2
    exact seq xs p vs e1 (.inr (TupV.sq e2)) e3 (by cases d1 <;> exact e)
  · rename_i xs
    obtain ⟨p, vs, e1, e2, e3⟩ := r2
    exact seq xs p vs e1 (.inl (by rw [hK]; exact e2)) e3 (by cases d1 <;> exact e)
theorem cmp_ok {o : Op} {c : CmpOp} (hc : opK o = .cmp c) (hK : X.K = W.K) (hu : X.A.units + 64 < cLine) (R : Rg W g S H) (h1 : RK W g S H a x f1) (h2 : RK W g S H b y f2) (e : opv o S [a, b] = some r) (po : Po W g S H f r Q) : uO X (compareOp c) x y H Q := by
  have hu1 : X.A.units + 1 < cLine := by omega
  cases o <;> first
    | (exfalso; cases hc; done)
    | skip
  all_goals cases hc
  · obtain ⟨d, e1, rfl⟩ := pure2_some (show pure2 (fun a b => (eqD a b).map fun r => D.bl r) [a, b] = some r from e)
    obtain ⟨q, e2, rfl⟩ := Option.map_eq_some_iff.mp e1
    exact (eqD_ok hK hu R h1 h2 e2).1 Q (po.bl R)
  · obtain ⟨d, e1, rfl⟩ := pure2_some (show pure2 (fun a b => (eqD a b).map fun r => D.bl (!r)) [a, b] = some r from e)
    obtain ⟨q, e2, rfl⟩ := Option.map_eq_some_iff.mp e1
    exact (eqD_ok hK hu R h1 h2 e2).2 Q (po.bl R)
  · exact cmpI_ok R h1 h2 e po fun i j Q hq => uO_of op_lt ⟨i, j, rfl, rfl, hq⟩
  · exact cmpI_ok R h1 h2 e po fun i j Q hq => uO_of op_le ⟨i, j, rfl, rfl, hq⟩
  · exact cmpI_ok R h1 h2 e po fun i j Q hq => uO_of op_gt ⟨i, j, rfl, rfl, hq⟩
  · exact cmpI_ok R h1 h2 e po fun i j Q hq => uO_of op_ge ⟨i, j, rfl, rfl, hq⟩
  · obtain ⟨d, e1, rfl⟩ := pure2_some (show pure2 (fun x d => (dIn d x).map fun b => D.bl b) [a, b] = some r from e)
    obtain ⟨q, e2, rfl⟩ := Option.map_eq_some_iff.mp e1
    exact (dIn_ok hK hu1 R h1 h2 e2).1 Q (po.bl R)
  · obtain ⟨d, e1, rfl⟩ := pure2_some (show pure2 (fun x d => (dIn d x).map fun b => D.bl (!b)) [a, b] = some r from e)
    obtain ⟨q, e2, rfl⟩ := Option.map_eq_some_iff.mp e1
    exact (dIn_ok hK hu1 R h1 h2 e2).2 Q (po.bl R)
end
end Z

namespace Z
open PySem L2 PySem.Spec PyProof.Rows
section
variable {W : Wr} {g g' g1 g2 : Gh} {S S' S1 S2 : Sto} {H H' H1 H2 : Hp} {T T1 T2 N : Addr → Prop} {X : Cx} {v u x y : V} {vs : List V} {f f1 f2 : List Addr} {Q : VK} {a b r : Vd} {bs : List Vd}
theorem rks_two (h : RKs W g S H [a, b] vs f) : ∃ x y f1 f2, vs = [x, y] ∧ f = f1 ++ f2 ∧ RK W g S H a x f1 ∧ RK W g S H b y f2 := by
  obtain ⟨x, ws, f1, f2, rfl, rfl, h1, y, us, f3, f4, rfl, rfl, h2, rfl, rfl⟩ := h
  exact ⟨x, y, f1, f3, rfl, by simp, h1, h2⟩
theorem rks_one (h : RKs W g S H [a] vs f) : ∃ x, vs = [x] ∧ RK W g S H a x f := by
  obtain ⟨x, ws, f1, f2, rfl, rfl, h1, rfl, rfl⟩ := h
  exact ⟨x, rfl, by simpa using h1⟩
theorem two_some {fn : Vd → Vd → Option Vd} (e : two fn bs = some r) : ∃ a b, bs = [a, b] ∧ fn a b = some r := by
  rcases bs with _ | ⟨a, _ | ⟨b, _ | ⟨_, _⟩⟩⟩ <;> first
    | (cases e; done)
    | exact ⟨a, b, rfl, e⟩
theorem one_some {fn : Vd → Option Vd} (e : one fn bs = some r) : ∃ a, bs = [a] ∧ fn a = some r := by
  rcases bs with _ | ⟨a, _ | ⟨b, _⟩⟩ <;> first
    | (cases e; done)
    | exact ⟨a, rfl, e⟩
theorem pure1_some' {fn : D → Option D} (e : pure1 fn bs = some r) : ∃ a d, bs = [a] ∧ fn a.2 = some d ∧ r = (.vl false, d) := by
  obtain ⟨a, rfl, e⟩ := one_some e
  obtain ⟨d, h1, h2⟩ := Option.map_eq_some_iff.mp e
  exact ⟨a, d, rfl, h1, h2.symm⟩
theorem pure2_some' {fn : D → D → Option D} (e : pure2 fn bs = some r) : ∃ a b d, bs = [a, b] ∧ fn a.2 b.2 = some d ∧ r = (.vl false, d) := by
  obtain ⟨a, b, rfl, e⟩ := two_some e
  obtain ⟨d, h1, h2⟩ := Option.map_eq_some_iff.mp e
  exact ⟨a, b, d, rfl, h1, h2.symm⟩
theorem RvL.ints {ρ : Rho} {G : Hp} : ∀ {ds : List D} {vs : List V} {ns : List Int}, RvL W ρ G ds vs → intsOf ds = some ns → vs = ns.map V.int
  | [], _, _, h, e => by cases e; exact h
  | .int i :: ds, _, ns, ⟨v, ws, h1, h2, h3⟩, e => by
    obtain ⟨ms, e1, e2⟩ := Option.map_eq_some_iff.mp (show (intsOf ds).map (fun r => i :: r) = some ns from e)
    subst e2
    rw [h1, RvL.ints h3 e1, show v = V.int i from h2]; rfl
  | .non :: _, _, _, _, e => by cases e
  | .bl _ :: _, _, _, _, e => by cases e
  | .str _ :: _, _, _, _, e => by cases e
  | .tup _ :: _, _, _, _, e => by cases e
  | .lst _ :: _, _, _, _, e => by cases e
  | .dK _ _ :: _, _, _, _, e => by cases e
  | .dT _ _ :: _, _, _, _, e => by cases e
  | .obj _ _ _ :: _, _, _, _, e => by cases e
  | .bx _ :: _, _, _, _, e => by cases e
theorem RvL.strs {ρ : Rho} {G : Hp} : ∀ {ds : List D} {vs : List V} {ns : List Str}, RvL W ρ G ds vs → strsOf ds = some ns → vs = ns.map V.str
  | [], _, _, h, e => by cases e; exact h
  | .str i :: ds, _, ns, ⟨v, ws, h1, h2, h3⟩, e => by
    obtain ⟨ms, e1, e2⟩ := Option.map_eq_some_iff.mp (show (strsOf ds).map (fun r => i :: r) = some ns from e)
    subst e2
    rw [h1, RvL.strs h3 e1, show v = V.str i from h2]; rfl
  | .non :: _, _, _, _, e => by cases e
  | .bl _ :: _, _, _, _, e => by cases e
  | .int _ :: _, _, _, _, e => by cases e
  | .tup _ :: _, _, _, _, e => by cases e
  | .lst _ :: _, _, _, _, e => by cases e
  | .dK _ _ :: _, _, _, _, e => by cases e
  | .dT _ _ :: _, _, _, _, e => by cases e
  | .obj _ _ _ :: _, _, _, _, e => by cases e
  | .bx _ :: _, _, _, _, e => by cases e
theorem RvL.bools {ρ : Rho} {G : Hp} : ∀ {ds : List D} {vs : List V} {ns : List Bool}, RvL W ρ G ds vs → boolsOf ds = some ns → vs = ns.map V.bl
  | [], _, _, h, e => by cases e; exact h
  | .bl i :: ds, _, ns, ⟨v, ws, h1, h2, h3⟩, e => by
    obtain ⟨ms, e1, e2⟩ := Option.map_eq_some_iff.mp (show (boolsOf ds).map (fun r => i :: r) = some ns from e)
    subst e2
    rw [h1, RvL.bools h3 e1, show v = V.bl i from h2]; rfl
  | .non :: _, _, _, _, e => by cases e
  | .str _ :: _, _, _, _, e => by cases e
  | .int _ :: _, _, _, _, e => by cases e
  | .tup _ :: _, _, _, _, e => by cases e
  | .lst _ :: _, _, _, _, e => by cases e
  | .dK _ _ :: _, _, _, _, e => by cases e
  | .dT _ _ :: _, _, _, _, e => by cases e
  | .obj _ _ _ :: _, _, _, _, e => by cases e
  | .bx _ :: _, _, _, _, e => by cases e
/-- a list that is read, of flat things -/
theorem lst_ints (R : Rg W g S H) {k : Kd} {xs : List D} {ns : List Int} (h : RK W g S H (k, .lst xs) v f) (e : intsOf xs = some ns) : ∃ c, v = .ref c ∧ SqL W.K H c (ns.map V.int) := by
  obtain ⟨c, vs, e1, e2, e3⟩ : Rv W g.r H (.lst xs) v := h.read R
  rw [e3.ints e] at e2
  exact ⟨c, e1, e2⟩
theorem truthD_ok (hK : X.K = W.K) (R : Rg W g S H) (h : RK W g S H a v f) {q : Bool} (e : truthD a.2 = some q) : TruV X.K v H q := by
  have r := h.read R
  obtain ⟨k, d⟩ := a
  cases d <;> first
    | (exfalso; cases e; done)
    | skip
  · cases e; rw [show v = _ from r]; rfl
  · cases e; rw [show v = _ from r]; rfl
  · cases e; rw [show v = _ from r]; rfl
  · rename_i z
    have e' : (if z.length ≤ sizeLine then some ((z.length : Int) != 0) else none) = some q := e
    obtain ⟨q1, q2⟩ := ite_some e'
    rw [show v = _ from r]
    exact ⟨q1, q2.symm⟩
  · cases e
    obtain ⟨c, vs, e1, e2, e3⟩ := r
    subst e1
    have := e3.length
    exact .inr (.inl ⟨vs, TupV.sq e2, by rename_i xs; cases xs <;> cases vs <;> simp_all⟩)
  · cases e
    obtain ⟨c, vs, e1, e2, e3⟩ := r
    subst e1
    have := e3.length
    exact .inl ⟨vs, by rw [hK]; exact e2, by rename_i xs; cases xs <;> cases vs <;> simp_all⟩
  · cases e
    obtain ⟨c, kvs, e1, e2, e4, e3⟩ := r
    subst e1
    exact .inr (.inr ⟨kvs, e2, by rw [← e4]; cases kvs <;> rfl⟩)
theorem mem_min : ∀ (is : List Int) (i m : Int), m ∈ i :: is → (∀ y ∈ i :: is, m ≤ y) → m = is.foldl min i
  | [], i, m, h, _ => by simpa using h
  | j :: is, i, m, h, k => by
    rw [List.foldl_cons]
    refine mem_min is (min i j) m ?_ fun y hy => ?_
    · have hi := k i (by simp)
      have hj := k j (by simp)
      rcases List.mem_cons.mp h with e | e
      · rw [List.mem_cons]; left; omega
      · rcases List.mem_cons.mp e with e | e
        · rw [List.mem_cons]; left; omega
        · exact List.mem_cons_of_mem _ e
    · rcases List.mem_cons.mp hy with e | e
      · have hi := k i (by simp)
        have hj := k j (by simp)
        omega
      · exact k y (by simp [e])
theorem mem_max : ∀ (is : List Int) (i m : Int), m ∈ i :: is → (∀ y ∈ i :: is, y ≤ m) → m = is.foldl max i
  | [], i, m, h, _ => by simpa using h
  | j :: is, i, m, h, k => by
    rw [List.foldl_cons]
    refine mem_max is (max i j) m ?_ fun y hy => ?_
    · have hi := k i (by simp)
      have hj := k j (by simp)
      rcases List.mem_cons.mp h with e | e
      · rw [List.mem_cons]; left; omega
      · rcases List.mem_cons.mp e with e | e
        · rw [List.mem_cons]; left; omega
        · exact List.mem_cons_of_mem _ e
    · rcases List.mem_cons.mp hy with e | e
      · have hi := k i (by simp)
        have hj := k j (by simp)
        omega
      · exact k y (by simp [e])
theorem sort_one {ns ms : List Int} (h1 : ms.Perm ns) (h2 : ms.Pairwise (· ≤ ·)) : ms = ns.mergeSort (fun a b => decide (a ≤ b)) := by
  refine List.Perm.eq_of_pairwise (le := fun a b => a ≤ b) (fun a b _ _ h1 h2 => Int.le_antisymm h1 h2) h2 ?_ (h1.trans (List.mergeSort_perm ns _).symm)
  have := List.pairwise_mergeSort (le := fun (a b : Int) => decide (a ≤ b)) (fun a b c h1 h2 => by simp at *; omega) (fun a b => by simp; omega) ns
  exact this.imp fun h => by simpa using h
theorem RvL.mapStr {ρ : Rho} {G : Hp} : ∀ (l : List Str), RvL W ρ G (l.map D.str) (l.map V.str)
  | [] => rfl
  | _ :: l => ⟨_, _, rfl, rfl, RvL.mapStr l⟩
theorem RvL.mapInt {ρ : Rho} {G : Hp} : ∀ (l : List Int), RvL W ρ G (l.map D.int) (l.map V.int)
  | [] => rfl
  | _ :: l => ⟨_, _, rfl, rfl, RvL.mapInt l⟩
theorem sortAny_some {xs : List D} {d : D} (e : sortAny xs = some d) : (∃ is, intsOf xs = some is ∧ d = sortI is) ∨ (∃ ss, strsOf xs = some ss ∧ ss.length < 64 ∧ d = sortT ss) := by
  unfold sortAny at e
  split at e
  · obtain ⟨ss, q1, q2⟩ := Option.bind_eq_some_iff.mp e
    obtain ⟨q3, q4⟩ := ite_some q2
    exact .inr ⟨ss, q1, q3, q4.symm⟩
  · obtain ⟨is, q1, q2⟩ := Option.map_eq_some_iff.mp e
    exact .inl ⟨is, q1, q2.symm⟩
theorem keys_ints : ∀ {ks : List Key} {is : List Int}, intsOf (ks.map keyD) = some is → ks = is.map Sum.inl
  | [], is, e => by cases e; rfl
  | .inl i :: ks, is, e => by
    obtain ⟨ms, e1, e2⟩ := Option.map_eq_some_iff.mp (show (intsOf (ks.map keyD)).map (fun r => i :: r) = some is from e)
    subst e2
    rw [keys_ints e1]; rfl
  | .inr z :: ks, is, e => by cases e
theorem keys_strs : ∀ {ks : List Key} {is : List Str}, strsOf (ks.map keyD) = some is → ks = is.map Sum.inr
  | [], is, e => by cases e; rfl
  | .inr i :: ks, is, e => by
    obtain ⟨ms, e1, e2⟩ := Option.map_eq_some_iff.mp (show (strsOf (ks.map keyD)).map (fun r => i :: r) = some is from e)
    subst e2
    rw [keys_strs e1]; rfl
  | .inl z :: ks, is, e => by cases e
theorem ltC_no : ∀ {a b : List Nat}, PySem.Spec.ltCps a b = false → PySem.Spec.ltCps b a = false → a = b
  | [], [], _, _ => rfl
  | [], _ :: _, h, _ => by cases h
  | _ :: _, [], _, h => by cases h
  | a :: r, b :: t, h1, h2 => by
    have h1' : (decide (a < b) || (a == b && PySem.Spec.ltCps r t)) = false := h1
    have h2' : (decide (b < a) || (b == a && PySem.Spec.ltCps t r)) = false := h2
    rw [Bool.or_eq_false_iff] at h1' h2'
    have n1 := of_decide_eq_false h1'.1
    have n2 := of_decide_eq_false h2'.1
    have e : a = b := by omega
    subst e
    have e1 := h1'.2
    have e2 := h2'.2
    rw [beq_self_eq_true, Bool.true_and] at e1 e2
    rw [ltC_no e1 e2]
theorem ltC_as : ∀ {a b : List Nat}, PySem.Spec.ltCps a b = true → PySem.Spec.ltCps b a = false
  | [], [], h => by cases h
  | [], _ :: _, _ => rfl
  | _ :: _, [], h => by cases h
  | a :: r, b :: t, h => by
    have h' : (decide (a < b) || (a == b && PySem.Spec.ltCps r t)) = true := h
    show (decide (b < a) || (b == a && PySem.Spec.ltCps t r)) = false
    rw [Bool.or_eq_true] at h'
    rcases h' with h' | h'
    · have := of_decide_eq_true h'
      rw [decide_eq_false (show ¬ b < a by omega), beq_eq_false_iff_ne.mpr (show b ≠ a by omega)]; rfl
    · obtain ⟨e, h2⟩ := Bool.and_eq_true_iff.mp h'
      have e := eq_of_beq e
      subst e
      rw [decide_eq_false (Nat.lt_irrefl _), ltC_as h2, Bool.and_false]; rfl
theorem ltC_tr : ∀ {a b c : List Nat}, PySem.Spec.ltCps b a = false → PySem.Spec.ltCps c b = false → PySem.Spec.ltCps c a = false
  | [], _, [], _, _ => rfl
  | [], _, _ :: _, _, _ => rfl
  | _ :: _, [], [], h, _ => by cases h
  | _ :: _, _ :: _, [], _, h => by cases h
  | _ :: _, [], _ :: _, h, _ => by cases h
  | a :: r, b :: t, c :: u, h1, h2 => by
    have h1' : (decide (b < a) || (b == a && PySem.Spec.ltCps t r)) = false := h1
    have h2' : (decide (c < b) || (c == b && PySem.Spec.ltCps u t)) = false := h2
    show (decide (c < a) || (c == a && PySem.Spec.ltCps u r)) = false
    rw [Bool.or_eq_false_iff] at h1' h2'
    have n1 := of_decide_eq_false h1'.1
    have n2 := of_decide_eq_false h2'.1
    by_cases e : c = a
    · subst e
      have e : b = c := by omega
      subst e
      have e1 := h1'.2
      have e2 := h2'.2
      rw [beq_self_eq_true, Bool.true_and] at e1 e2
      rw [decide_eq_false (Nat.lt_irrefl _), ltC_tr e1 e2, Bool.and_false]; rfl
    · rw [decide_eq_false (show ¬ c < a by omega), beq_eq_false_iff_ne.mpr e]; rfl
theorem rising_pw : ∀ {l : List PySem.Str} {p : PySem.Str}, risingS p l = true → (p :: l).Pairwise (fun a b => leS a b = true)
  | [], p, _ => List.pairwise_singleton ..
  | x :: r, p, h => by
    obtain ⟨h1, h2⟩ := Bool.and_eq_true_iff.mp (show (!PySem.Spec.ltCps x.cps.toList p.cps.toList && risingS x r) = true from h)
    have ih := rising_pw h2
    refine List.pairwise_cons.mpr ⟨fun y hy => ?_, ih⟩
    have h1 : leS p x = true := h1
    rcases List.mem_cons.mp hy with e | hy
    · rw [e]; exact h1
    · have h3 := (List.pairwise_cons.mp ih).1 y hy
      unfold leS at h1 h3 ⊢
      rw [Bool.not_eq_true'] at h1 h3 ⊢
      exact ltC_tr h1 h3
theorem sort_oneT {ns ms : List PySem.Str} (h1 : ms.Perm ns) (h2 : sortedS ms = true) : ms = ns.mergeSort leS := by
  have p2 : ms.Pairwise (fun a b => leS a b = true) := by
    cases ms with
    | nil => exact List.Pairwise.nil
    | cons x r => exact rising_pw h2
  refine List.Perm.eq_of_pairwise (le := fun a b => leS a b = true) (fun a b _ _ h1 h2 => ?_) p2 ?_ (h1.trans (List.mergeSort_perm ns _).symm)
  · unfold leS at h1 h2
    rw [Bool.not_eq_true'] at h1 h2
    exact PySem.Str.ext' (Array.toList_inj.mp (ltC_no h2 h1))
  · exact List.pairwise_mergeSort (le := leS) (fun a b c h1 h2 => by
      unfold leS at h1 h2 ⊢
      rw [Bool.not_eq_true'] at h1 h2 ⊢
      exact ltC_tr h1 h2) (fun a b => by
      unfold leS
      cases h : PySem.Spec.ltCps b.cps.toList a.cps.toList with
      | false => rfl
      | true => rw [ltC_as h]; rfl) ns
theorem blt_case {o : Op} {nm : Str} {id : String} {n : Nat} (hc : opK o = .blt nm id n) (hK : X.K = W.K) (calm : hotOp o = false → X.calm = true) (R : Rg W g S H) (h : RKs W g S H bs vs f) (fr : Fre g S N f) (e : opv o S bs = some r) (po : Po W g S H f r Q) : uC X (.builtin id) vs H Q := by
  cases o <;> first
    | (exfalso; cases hc; done)
    | skip
  all_goals cases hc
  · -- len
    obtain ⟨a, d, rfl, e1, rfl⟩ := pure1_some' (show pure1 opLen bs = some r from e)
    obtain ⟨x, rfl, hh⟩ := rks_one h
    have rr := hh.read R
    obtain ⟨k, d1⟩ := a
    cases d1 <;> first
      | (exfalso; cases e1; done)
      | skip
    · rename_i z
      obtain ⟨q1, q2⟩ := ite_some (show (if z.length ≤ sizeLine then some (D.int z.length) else none) = some d from e1)
      subst q2
      rw [show x = _ from rr]
      exact uC_of call_len_str ⟨z, rfl, q1, po.int R⟩
    · cases e1
      obtain ⟨c, us, e1, e2, e3⟩ := rr
      refine uC_of call_len_seq ⟨c, us, by rw [e1], .inr (TupV.sq e2), ?_⟩
      rw [e3.length]; exact po.int R
    · cases e1
      obtain ⟨c, us, e1, e2, e3⟩ := rr
      refine uC_of call_len_seq ⟨c, us, by rw [e1], .inl (by rw [hK]; exact e2), ?_⟩
      rw [e3.length]; exact po.int R
    · cases e1
      obtain ⟨c, kvs, e1, e2, e4, e3⟩ := rr
      refine uC_of call_lenD ⟨c, kvs, by rw [e1], e2, ?_⟩
      rw [← e4, List.length_map] at po
      exact po.int R
  · -- abs
    obtain ⟨a, d, rfl, e1, rfl⟩ := pure1_some' (show pure1 opAbs bs = some r from e)
    obtain ⟨x, rfl, hh⟩ := rks_one h
    obtain ⟨k, d1⟩ := a
    cases d1 <;> first
      | (exfalso; cases e1; done)
      | skip
    cases e1
    rw [rk_int R hh]
    exact uC_of call_abs ⟨_, rfl, po.int R⟩
  · obtain ⟨a, b, rfl, e1⟩ := two_some (show two (opI fun i j => some (.int (if j < i then j else i))) bs = some r from e)
    obtain ⟨x, y, f1, f2, rfl, rfl, h1, h2⟩ := rks_two h
    obtain ⟨k1, k2, i, j, d, rfl, rfl, q, rfl⟩ := opI_some e
    cases q
    rw [rk_int R h1, rk_int R h2]
    exact uC_of (call_min2 (calm rfl)) ⟨i, j, rfl, po.int R⟩
  · obtain ⟨a, b, rfl, e1⟩ := two_some (show two (opI fun i j => some (.int (if j > i then j else i))) bs = some r from e)
    obtain ⟨x, y, f1, f2, rfl, rfl, h1, h2⟩ := rks_two h
    obtain ⟨k1, k2, i, j, d, rfl, rfl, q, rfl⟩ := opI_some e
    cases q
    rw [rk_int R h1, rk_int R h2]
    exact uC_of (call_max2 (calm rfl)) ⟨i, j, rfl, po.int R⟩
  · obtain ⟨a, d, rfl, e1, rfl⟩ := pure1_some' (show pure1 opMinL bs = some r from e)
    obtain ⟨x, rfl, hh⟩ := rks_one h
    obtain ⟨k, d1⟩ := a
    cases d1 <;> first
      | (exfalso; cases e1; done)
      | skip
    rename_i xs
    obtain ⟨is, q1, q2⟩ := Option.bind_eq_some_iff.mp (show (intsOf xs).bind (fun is => match is with | [] => none | i :: r => some (D.int (r.foldl min i))) = some d from e1)
    cases is with
    | nil => cases q2
    | cons i is =>
      cases q2
      obtain ⟨c, rfl, hs⟩ := lst_ints R hh q1
      exact uC_of (cr_min (calm rfl)) ⟨c, i :: is, rfl, by rw [hK]; exact hs, by simp, fun m h1 h2 => by rw [mem_min is i m h1 h2]; exact po.int R⟩
  · obtain ⟨a, d, rfl, e1, rfl⟩ := pure1_some' (show pure1 opMaxL bs = some r from e)
    obtain ⟨x, rfl, hh⟩ := rks_one h
    obtain ⟨k, d1⟩ := a
    cases d1 <;> first
      | (exfalso; cases e1; done)
      | skip
    rename_i xs
    obtain ⟨is, q1, q2⟩ := Option.bind_eq_some_iff.mp (show (intsOf xs).bind (fun is => match is with | [] => none | i :: r => some (D.int (r.foldl max i))) = some d from e1)
    cases is with
    | nil => cases q2
    | cons i is =>
      cases q2
      obtain ⟨c, rfl, hs⟩ := lst_ints R hh q1
      exact uC_of (cr_max (calm rfl)) ⟨c, i :: is, rfl, by rw [hK]; exact hs, by simp, fun m h1 h2 => by rw [mem_max is i m h1 h2]; exact po.int R⟩
  · obtain ⟨a, d, rfl, e1, rfl⟩ := pure1_some' (show pure1 opSumL bs = some r from e)
    obtain ⟨x, rfl, hh⟩ := rks_one h
    obtain ⟨k, d1⟩ := a
    cases d1 <;> first
      | (exfalso; cases e1; done)
      | skip
    rename_i xs
    obtain ⟨is, q1, q2⟩ := Option.map_eq_some_iff.mp (show (intsOf xs).map (fun is => D.int is.sum) = some d from e1)
    subst q2
    obtain ⟨c, rfl, hs⟩ := lst_ints R hh q1
    exact uC_of (cr_sum (calm rfl)) ⟨c, is, rfl, by rw [hK]; exact hs, po.int R⟩
  · obtain ⟨a, d, rfl, e1, rfl⟩ := pure1_some' (show pure1 opAnyL bs = some r from e)
    obtain ⟨x, rfl, hh⟩ := rks_one h
    have rr := hh.read R
    obtain ⟨k, d1⟩ := a
    cases d1 <;> first
      | (exfalso; cases e1; done)
      | skip
    rename_i xs
    obtain ⟨is, q1, q2⟩ := Option.map_eq_some_iff.mp (show (boolsOf xs).map (fun is => D.bl (is.any id)) = some d from e1)
    subst q2
    obtain ⟨c, us, w1, w2, w3⟩ := rr
    rw [w3.bools q1] at w2
    exact uC_of (cr_any (calm rfl)) ⟨c, is, by rw [w1], by rw [hK]; exact w2, po.bl R⟩
  · obtain ⟨a, rfl, e1⟩ := one_some (show one (fun a => (opSorted a.2).map fun d => ((.fr 1 false, d) : Vd)) bs = some r from e)
    obtain ⟨x, rfl, hh⟩ := rks_one h
    obtain ⟨d, e1b, rfl⟩ := Option.map_eq_some_iff.mp e1
    obtain ⟨k, d1⟩ := a
    cases d1 <;> first
      | (exfalso; cases e1b; done)
      | skip
    · rename_i xs
      rcases sortAny_some (show sortAny xs = some d from e1b) with ⟨is, q1, q2⟩ | ⟨ss, q1, q3, q2⟩
      · subst q2
        obtain ⟨c, rfl, hs⟩ := lst_ints R hh q1
        refine uC_of cr_sortedI ⟨c, is, rfl, by rw [hK]; exact hs, fun ms p h1 h2 hp => ?_⟩
        rw [sort_one h1 h2]
        exact Po.lstN R (RvL.mapInt _) hp po
      · subst q2
        obtain ⟨c, vs, rfl, hs, hv⟩ : Rv W g.r H (.lst xs) x := hh.read R
        rw [hv.strs q1] at hs
        refine uC_of cr_sortedS ⟨c, ss, rfl, by rw [hK]; exact hs, q3, fun ms p h1 h2 hp => ?_⟩
        rw [sort_oneT h1 h2]
        exact Po.lstN R (RvL.mapStr _) hp po
    · rename_i ks xs
      obtain ⟨c, kvs, rfl, w2, w3, w4⟩ := hh.read R
      rcases sortAny_some (show sortAny (ks.map keyD) = some d from e1b) with ⟨is, q1, q2⟩ | ⟨ss, q1, q3, q2⟩
      · subst q2
        refine uC_of (call_sortedDIA (calm rfl)) ⟨c, kvs, is, rfl, .inl w2, w3.trans (keys_ints q1), fun ms p h1 h2 hp => ?_⟩
        rw [sort_one h1 h2]
        exact Po.lstN R (RvL.mapInt _) hp po
      · subst q2
        refine uC_of (call_sortedD (calm rfl)) ⟨c, kvs, ss, rfl, .inl w2, w3.trans (keys_strs q1), q3, fun ms p h1 h2 hp => ?_⟩
        rw [sort_oneT h1 h2]
        exact Po.lstN R (RvL.mapStr _) hp po
theorem RvL.mapKey {ρ : Rho} {G : Hp} : ∀ (l : List Key), RvL W ρ G (l.map keyD) (l.map kV)
  | [] => rfl
  | .inl i :: l => ⟨_, _, rfl, rfl, RvL.mapKey l⟩
  | .inr i :: l => ⟨_, _, rfl, rfl, RvL.mapKey l⟩
theorem typ_case {o : Op} {nm : Str} {T : String} {n : Nat} (hc : opK o = .typ nm T n) (hK : X.K = W.K) (calm : hotOp o = false → X.calm = true) (R : Rg W g S H) (h : RKs W g S H bs vs f) (fr : Fre g S N f) (e : opv o S bs = some r) (po : Po W g S H f r Q) : uC X (.type T) vs H Q := by
  cases o <;> first
    | (exfalso; cases hc; done)
    | skip
  all_goals cases hc
  · obtain ⟨a, d, rfl, e1, rfl⟩ := pure1_some' (show pure1 opInt1 bs = some r from e)
    obtain ⟨x, rfl, hh⟩ := rks_one h
    obtain ⟨k, d1⟩ := a
    cases d1 <;> first
      | (exfalso; cases e1; done)
      | skip
    · cases e1
      rw [rk_bl R hh]
      exact uC_of call_int1 (.inr ⟨_, rfl, po.int R⟩)
    · cases e1
      rw [rk_int R hh]
      exact uC_of call_int1 (.inl ⟨_, rfl, po.int R⟩)
    · rename_i z
      rw [rk_str R hh]
      have e' : (if z.length ≤ 640 then (PySem.intText? z).map (fun n => D.int n) else none) = some d := e1
      by_cases q : z.length ≤ 640
      · rw [if_pos q] at e'
        obtain ⟨n, q1, q2⟩ := Option.map_eq_some_iff.mp e'
        subst q2
        exact uC_of call_int_str ⟨z, n, rfl, q1, q, po.int R⟩
      · rw [if_neg q] at e'; cases e'
  · obtain ⟨a, d, rfl, e1, rfl⟩ := pure1_some' (show pure1 opStr1 bs = some r from e)
    obtain ⟨x, rfl, hh⟩ := rks_one h
    obtain ⟨k, d1⟩ := a
    cases d1 <;> first
      | (exfalso; cases e1; done)
      | skip
    rename_i i
    obtain ⟨q1, q2⟩ := ite_some (show (if i.natAbs.log2 < 1920 then some (D.str (toString i)) else none) = some d from e1)
    subst q2
    rw [rk_int R hh]
    exact uC_of call_str_int ⟨i, rfl, q1, po.str R⟩
  · obtain ⟨a, rfl, e1⟩ := one_some (show one (opList1 S) bs = some r from e)
    obtain ⟨x, rfl, hh⟩ := rks_one h
    obtain ⟨k, d1⟩ := a
    cases d1 <;> first
      | (exfalso; cases e1; done)
      | skip
    · rename_i xs
      obtain ⟨l, s1, e2⟩ := Option.map_eq_some_iff.mp (show listK S k xs xs = some r from e1)
      subst e2
      obtain ⟨a1, vs1, g1, w1, q1, R1, gr1, rv1⟩ := tup_rk R hh fr s1
      exact uC_of call_list_of ⟨a1, vs1, by rw [w1], .inr (TupV.sq q1), fun p hp => Po.lst R1 gr1 rv1 hp po⟩
    · rename_i xs
      obtain ⟨l, s1, e2⟩ := Option.map_eq_some_iff.mp (show listK S k xs xs = some r from e1)
      subst e2
      obtain ⟨a1, vs1, g1, w1, q1, R1, gr1, rv1⟩ := lst_rk R hh fr s1
      exact uC_of call_list_of ⟨a1, vs1, by rw [w1], .inl (by rw [hK]; exact q1), fun p hp => Po.lst R1 gr1 rv1 hp po⟩
    · cases e1
      obtain ⟨c, kvs, w1, w2, w3, w4⟩ := hh.read R
      refine uC_of (call_list_dK (calm rfl)) ⟨c, kvs, by rw [w1], w2, fun p hp => ?_⟩
      rw [show (kvs.map fun kv => kV kv.1) = (kvs.map (·.1)).map kV by rw [List.map_map]; rfl, w3]
      exact Po.lstN R (RvL.mapKey _) hp po
  · obtain ⟨a, rfl, e1⟩ := one_some (show one (opTuple1 S) bs = some r from e)
    obtain ⟨x, rfl, hh⟩ := rks_one h
    obtain ⟨k, d1⟩ := a
    cases d1 <;> first
      | (exfalso; cases e1; done)
      | skip
    · rename_i xs
      obtain ⟨l, s1, e2⟩ := Option.map_eq_some_iff.mp (show tupK S k xs xs = some r from e1)
      subst e2
      obtain ⟨a1, vs1, g1, w1, q1, R1, gr1, rv1⟩ := tup_rk R hh fr s1
      exact uC_of call_tuple_of ⟨a1, vs1, by rw [w1], .inr ⟨TupV.sq q1, by rw [← w1]; exact w1 ▸ Po.same R1 gr1 rv1 q1 po⟩⟩
    · rename_i xs
      obtain ⟨l, s1, e2⟩ := Option.map_eq_some_iff.mp (show tupK S k xs xs = some r from e1)
      subst e2
      obtain ⟨a1, vs1, g1, w1, q1, R1, gr1, rv1⟩ := lst_rk R hh fr s1
      exact uC_of call_tuple_of ⟨a1, vs1, by rw [w1], .inl ⟨by rw [hK]; exact q1, fun p hp => Po.tupl R1 gr1 rv1 hp po⟩⟩
  · obtain ⟨a, rfl, e1⟩ := one_some (show one (opDict1 S) bs = some r from e)
    obtain ⟨x, rfl, hh⟩ := rks_one h
    obtain ⟨k, d1⟩ := a
    cases d1 <;> first
      | (exfalso; cases e1; done)
      | skip
    rename_i ks xs
    obtain ⟨l, s1, e2⟩ := Option.map_eq_some_iff.mp (show (settle S k xs).map (fun l => ((.fr 1 l, .dK ks xs) : Vd)) = some r from e1)
    subst e2
    obtain ⟨a1, kvs, g1, w1, q1, w3, R1, gr1, rv1⟩ := dK_rk R hh fr s1
    exact uC_of call_dictD ⟨a1, kvs, by rw [w1], q1, fun p hp => Po.dctK R1 gr1 w3 rv1 hp po⟩
end
end Z

namespace Z
open PySem L2 PySem.Spec PyProof.Rows
section
variable {W : Wr} {g g' g1 g2 : Gh} {S S' S1 S2 : Sto} {H H' H1 H2 : Hp} {T T1 T2 N : Addr → Prop} {X : Cx} {v u x y : V} {vs : List V} {f f1 f2 : List Addr} {Q : VK} {a b r : Vd} {bs : List Vd}
theorem rks_three {c : Vd} (h : RKs W g S H [a, b, c] vs f) : ∃ x y z f1 f2 f3, vs = [x, y, z] ∧ f = f1 ++ (f2 ++ f3) ∧ RK W g S H a x f1 ∧ RK W g S H b y f2 ∧ RK W g S H c z f3 := by
  obtain ⟨x, ws, f1, f2, rfl, rfl, h1, h2⟩ := h
  obtain ⟨y, z, f3, f4, rfl, rfl, h3, h4⟩ := rks_two h2
  exact ⟨x, y, z, f1, f3, f4, rfl, rfl, h1, h3, h4⟩
theorem pos_lookup {f : Str} : ∀ (l : List (Str × V)), l.lookup f = (posOf (l.map (·.1)) f).bind fun j => (l.map (·.2))[j]?
  | [] => rfl
  | (k, v) :: l => by
    have ih := pos_lookup (f := f) l
    unfold posOf at *
    simp only [List.lookup_cons, List.map_cons, List.findIdx?_cons]
    by_cases e : k = f
    · subst e; simp
    · have e' : (f == k) = false := by simp [Ne.symm e]
      rw [e', decide_eq_false e]
      simp only [Bool.false_eq_true, if_false]
      rw [ih]
      cases h : (List.map (fun x => x.1) l).findIdx? (fun q => decide (q = f)) <;> simp [h]
theorem ty_list (h : SqL X.K H c us) : tyV X.K "list" (.ref c) H := .inl ⟨rfl, _, h⟩
theorem mth_case {o : Op} {Ty : String} {nm : Str} {id : String} {n : Nat} (hc : opK o = .mth Ty nm id n) (hK : X.K = W.K) (hu : X.A.units + 64 < cLine) (R : Rg W g S H) (h : RKs W g S H bs vs f) (fr : Fre g S N f) (e : opv o S bs = some r) (po : Po W g S H f r Q) :
    ∃ x xs, vs = x :: xs ∧ uM X id x xs H Q := by
  have hu1 : X.A.units + 1 < cLine := by omega
  cases o <;> first
    | (exfalso; cases hc; done)
    | skip
  all_goals cases hc
  · -- join
    obtain ⟨a, b, d, rfl, e1, rfl⟩ := pure2_some' (show pure2 opJoin bs = some r from e)
    obtain ⟨x, y, f1, f2, rfl, rfl, h1, h2⟩ := rks_two h
    obtain ⟨k1, d1⟩ := a
    obtain ⟨k2, d2⟩ := b
    cases d1 <;> first
      | (exfalso; cases d2 <;> (have z : (none : Option D) = some d := e1; cases z))
      | skip
    cases d2 <;> first
      | (exfalso; have z : (none : Option D) = some d := e1; cases z)
      | skip
    rename_i z xs
    obtain ⟨ys, q1, q2⟩ := Option.bind_eq_some_iff.mp (show (strsOf xs).bind (fun ys => if (ys.map (·.length)).sum + ys.length * z.length ≤ 16777216 then some (D.str (Txt.join z ys)) else none) = some d from e1)
    obtain ⟨q2b, q3⟩ := ite_some q2
    subst q3
    obtain ⟨c, us, w1, w2, w3⟩ := h2.read R
    rw [w3.strs q1] at w2
    exact ⟨x, [y], rfl, uM_of mt_join ⟨z, c, ys, rk_str R h1, by rw [w1], .inl (by rw [hK]; exact w2), q2b, po.str R⟩⟩
  · -- split
    obtain ⟨a, b, rfl, e1⟩ := two_some (show two (fun a b => (opSplit a.2 b.2).map fun d => ((.fr 1 false, d) : Vd)) bs = some r from e)
    obtain ⟨x, y, f1, f2, rfl, rfl, h1, h2⟩ := rks_two h
    obtain ⟨d, e2, rfl⟩ := Option.map_eq_some_iff.mp e1
    obtain ⟨k1, d1⟩ := a
    obtain ⟨k2, d2⟩ := b
    cases d1 <;> first
      | (exfalso; cases d2 <;> (have z : (none : Option D) = some d := e2; cases z))
      | skip
    cases d2 <;> first
      | (exfalso; have z : (none : Option D) = some d := e2; cases z)
      | skip
    rename_i z w
    obtain ⟨⟨q1, q2⟩, q3⟩ := ite_some (show (if (w.length == 0) = false ∧ z.length + 2 ≤ sizeLine then some (D.lst ((Txt.split z w).map D.str)) else none) = some d from e2)
    subst q3
    exact ⟨x, [y], rfl, uM_of mt_split ⟨z, w, rk_str R h1, by rw [rk_str R h2], q1, q2, fun p hp => Po.lstN R (RvL.mapStr _) hp po⟩⟩
  · -- find2
    have e' : opFind2 bs = some r := e
    unfold opFind2 at e'
    split at e'
    · cases e'
      obtain ⟨x, y, z, f1, f2, f3, rfl, rfl, h1, h2, h3⟩ := rks_three h
      exact ⟨x, [y, z], rfl, uM_of mt_find3 ⟨_, _, _, rk_str R h1, by rw [rk_str R h2, rk_int R h3], po.int R⟩⟩
    · cases e'
  · -- find1
    obtain ⟨a, b, d, rfl, e1, rfl⟩ := pure2_some' (show pure2 opFind1 bs = some r from e)
    obtain ⟨x, y, f1, f2, rfl, rfl, h1, h2⟩ := rks_two h
    obtain ⟨k1, d1⟩ := a
    obtain ⟨k2, d2⟩ := b
    cases d1 <;> first
      | (exfalso; cases d2 <;> (have z : (none : Option D) = some d := e1; cases z))
      | skip
    cases d2 <;> first
      | (exfalso; have z : (none : Option D) = some d := e1; cases z)
      | skip
    cases e1
    exact ⟨x, [y], rfl, uM_of mt_find ⟨_, _, rk_str R h1, by rw [rk_str R h2], po.int R⟩⟩
  · -- index
    obtain ⟨a, b, d, rfl, e1, rfl⟩ := pure2_some' (show pure2 opIndex bs = some r from e)
    obtain ⟨x, y, f1, f2, rfl, rfl, h1, h2⟩ := rks_two h
    obtain ⟨k1, d1⟩ := a
    obtain ⟨k2, d2⟩ := b
    cases d1 <;> first
      | (exfalso; cases d2 <;> (have z : (none : Option D) = some d := e1; cases z))
      | skip
    rename_i xs
    obtain ⟨w, q1, e2⟩ := Option.bind_eq_some_iff.mp (show d2.flat.bind (fun v => (flatL xs).bind fun vs => (vs.findIdx? (fun z => eqV z v)).map fun j => D.int (j : Nat)) = some d from e1)
    obtain ⟨us, q2, e3⟩ := Option.bind_eq_some_iff.mp e2
    obtain ⟨j, q3, q4⟩ := Option.map_eq_some_iff.mp e3
    subst q4
    obtain ⟨z1, z2⟩ := Rv.flat (h2.read R) q1
    obtain ⟨c, ws, w1, w2, w3⟩ := h1.read R
    obtain ⟨z3, z4⟩ := w3.flat q2
    subst z1 z3
    obtain ⟨hj, t1, t2⟩ := List.findIdx?_eq_some_iff_getElem.mp q3
    exact ⟨x, [y], rfl, uM_of mt_index ⟨c, ws, y, j, ws[j], w1, rfl, by rw [hK]; exact w2, z2, z4, List.getElem?_eq_getElem hj, t1, fun m z' hm hz => by
      have hm' : m < ws.length := by omega
      rw [List.getElem?_eq_getElem hm'] at hz
      cases hz
      simpa using t2 m hm, po.int R⟩⟩
  · -- count
    obtain ⟨a, b, d, rfl, e1, rfl⟩ := pure2_some' (show pure2 opCount bs = some r from e)
    obtain ⟨x, y, f1, f2, rfl, rfl, h1, h2⟩ := rks_two h
    obtain ⟨k1, d1⟩ := a
    obtain ⟨k2, d2⟩ := b
    cases d1 <;> first
      | (exfalso; cases d2 <;> (have z : (none : Option D) = some d := e1; cases z))
      | skip
    rename_i xs
    obtain ⟨w, q1, e2⟩ := Option.bind_eq_some_iff.mp (show d2.flat.bind (fun v => (flatL xs).map fun vs => D.int ((vs.countP fun z => eqV z v : Nat) : Int)) = some d from e1)
    obtain ⟨us, q2, q4⟩ := Option.map_eq_some_iff.mp e2
    subst q4
    obtain ⟨z1, z2⟩ := Rv.flat (h2.read R) q1
    obtain ⟨c, ws, w1, w2, w3⟩ := h1.read R
    obtain ⟨z3, z4⟩ := w3.flat q2
    subst z1 z3
    exact ⟨x, [y], rfl, uM_of mt_lcountF ⟨c, ws, y, w1, rfl, by rw [hK]; exact w2, z2, z4, po.int R⟩⟩
  · -- get1
    obtain ⟨a, b, rfl, e1⟩ := two_some (show two (opGet1 S) bs = some r from e)
    obtain ⟨x, y, f1, f2, rfl, rfl, h1, h2⟩ := rks_two h
    obtain ⟨k1, d1⟩ := a
    obtain ⟨k2, d2⟩ := b
    obtain ⟨o, q1, q2⟩ := Option.bind_eq_some_iff.mp (show (dPos d1 d2).bind (fun o => match o with | some j => kid S k1 d1.kids j | none => some (.vl false, .non)) = some r from e1)
    cases o with
    | some j =>
      obtain ⟨j', d, k', t1, t2, t3, rfl⟩ := kid_some q2
      obtain ⟨rfl, hj⟩ := ixN_nat t1
      obtain ⟨ws, w, f', s1, s2, s3, s4, s5⟩ := kid_rk R h1 t2 t3
      obtain ⟨c, rfl, dg⟩ := dget_sh R s1 h2 q1
      refine ⟨_, [y], rfl, uM_of (mt_dget hu1) ⟨c, _, rfl, .inl ⟨y, rfl, dg, ?_⟩⟩⟩
      show Q ((ws[j']?).getD .non) H
      rw [s3]
      exact po.kid R fr (s4.trans (List.sublist_append_left _ _)) s5
    | none =>
      cases q2
      obtain ⟨c, w, t1, t2, t3, _⟩ := dPos_get R h1 h2 q1
      cases w with
      | some w => cases t3
      | none => exact ⟨_, [y], rfl, uM_of (mt_dget hu1) ⟨c, none, t1, .inl ⟨y, rfl, t2, po.val R rfl⟩⟩⟩
  · -- get2
    have e' : opGet2 S bs = some r := e
    unfold opGet2 at e'
    split at e'
    · rename_i k1 d1 k2 d2 a
      obtain ⟨x, y, z, f1, f2, f3, rfl, rfl, h1, h2, h3⟩ := rks_three h
      obtain ⟨o, q1, q2⟩ := Option.bind_eq_some_iff.mp e'
      cases o with
      | some j =>
        obtain ⟨j', d, k', t1, t2, t3, rfl⟩ := kid_some q2
        obtain ⟨rfl, hj⟩ := ixN_nat t1
        obtain ⟨ws, w, f', s1, s2, s3, s4, s5⟩ := kid_rk R h1 t2 t3
        obtain ⟨c, rfl, dg⟩ := dget_sh R s1 h2 q1
        refine ⟨_, [y, z], rfl, uM_of (mt_dget hu1) ⟨c, _, rfl, .inr ⟨y, z, rfl, dg, ?_⟩⟩⟩
        show Q ((ws[j']?).getD z) H
        rw [s3]
        exact po.kid R fr (s4.trans (List.sublist_append_left _ _)) s5
      | none =>
        cases q2
        obtain ⟨c, w, t1, t2, t3, _⟩ := dPos_get R h1 h2 q1
        cases w with
        | some w => cases t3
        | none => exact ⟨_, [y, z], rfl, uM_of (mt_dget hu1) ⟨c, none, t1, .inr ⟨y, z, rfl, t2, po.same1 R fr ((List.sublist_append_right _ _).trans (List.sublist_append_right _ _)) h3⟩⟩⟩
    · cases e'

mutual
theorem Rt.ofImm {ρ : Rho} {G : Hp} : ∀ {d : D} {k : Nat} {v : V}, d.imm = true → Rv W ρ G d v → Rt W ρ G H d k v []
  | .non, _, _, _, h => ⟨rfl, h⟩
  | .bl _, _, _, _, h => ⟨rfl, h⟩
  | .int _, _, _, _, h => ⟨rfl, h⟩
  | .str _, _, _, _, h => ⟨rfl, h⟩
  | .bx _, _, _, _, h => ⟨rfl, h⟩
  | .tup _, 0, _, _, h => ⟨rfl, h⟩
  | .tup _, k + 1, _, i, ⟨a, vs, h1, h2, h3⟩ => ⟨a, vs, h1, h2, RtL.ofImm i h3⟩
  | .lst _, _, _, i, _ => by cases i
  | .dK _ _, _, _, i, _ => by cases i
  | .dT _ _, _, _, i, _ => by cases i
  | .obj _ _ _, _, _, i, _ => by cases i
theorem RtL.ofImm {ρ : Rho} {G : Hp} : ∀ {ds : List D} {k : Nat} {vs : List V}, immL ds = true → RvL W ρ G ds vs → RtL W ρ G H ds k vs []
  | [], _, _, _, h => ⟨h, rfl⟩
  | _ :: _, _, _, i, ⟨v, ws, h1, h2, h3⟩ => by
    obtain ⟨i1, i2⟩ := Bool.and_eq_true_iff.mp i
    exact ⟨v, ws, [], [], h1, rfl, Rt.ofImm i1 h2, RtL.ofImm i2 h3⟩
end
theorem fits_rk (R : Rg W g S H) {dp : Nat} {ln : Bool} (h : RK W g S H a v f) (nd : f.Nodup) (fr : ∀ a ∈ f, g.L a = none ∧ ¬ Own g S a) (e : fits dp ln a = true) :
    ∃ g' f', f'.Sublist f ∧ Rg W g' S H ∧ Gr (· ∈ f) g S H g' S H ∧ Rt W g'.r (g'.G ln) H a.2 dp v f' ∧ (∀ a, a ∉ f → g'.L a = g.L a) ∧ (∀ a ∈ f', g'.L a = none) ∧ g'.fp = g.fp ∧ g'.r = g.r := by
  obtain ⟨k, d⟩ := a
  by_cases i : d.imm = true
  · refine ⟨g, [], by simp, R, Gr.refl, Rt.ofImm i (Rv.mono (R.G_le (l := false) (by cases ln <;> rfl)) (fun _ _ z => z) (h.imm R i).2), fun _ _ => rfl, by simp, rfl, rfl⟩
  · have e' : (d.imm || match (generalizing := false) k with
      | .vl l => dp == 0 && (!l || ln)
      | .fr j l => decide (dp ≤ j) && (!l || ln)
      | .tn _ _ => false) = true := e
    rw [show d.imm = false by simpa using i, Bool.false_or] at e'
    cases k with
    | vl l =>
      obtain ⟨e1, e2⟩ := Bool.and_eq_true_iff.mp e'
      obtain ⟨e3, h⟩ := h
      have : dp = 0 := by simpa using e1
      subst this
      exact ⟨g, [], by simp, R, Gr.refl, Rt.of0 (Rv.mono (R.G_le e2) (fun _ _ z => z) h), fun _ _ => rfl, by simp, rfl, rfl⟩
    | fr j l =>
      obtain ⟨e1, e2⟩ := Bool.and_eq_true_iff.mp e'
      obtain ⟨g', f', s, R', gr, rt, o1, o2, o3, o4⟩ := R.wk (m := ln) h nd fr (of_decide_eq_true e1) e2
      exact ⟨g', f', s, R', gr, rt, o1, o2, o3, o4⟩
    | tn n p => cases e'
theorem RKs.keepP (e : Ex H H') (h : Gr T g S H g' S H') : ∀ {as : List Vd} {vs : List V} {fp : List Addr}, RKs W g S H as vs fp → RKs W g' S H' as vs fp
  | [], _, _, q => q
  | _ :: _, _, _, ⟨v, ws, f1, f2, h1, h2, h3, h4⟩ => ⟨v, ws, f1, f2, h1, h2, h3.keepP e h, RKs.keepP e h h4⟩
theorem fitsL_rk {dp : Nat} {ln : Bool} : ∀ {as : List Vd} {g : Gh} {vs : List V} {f : List Addr}, Rg W g S H → RKs W g S H as vs f → f.Nodup → (∀ a ∈ f, g.L a = none ∧ ¬ Own g S a) → as.all (fits dp ln) = true →
    ∃ g' f', f'.Sublist f ∧ Rg W g' S H ∧ Gr (· ∈ f) g S H g' S H ∧ RtL W g'.r (g'.G ln) H (as.map (·.2)) dp vs f' ∧ (∀ a, a ∉ f → g'.L a = g.L a) ∧ (∀ a ∈ f', g'.L a = none) ∧ g'.fp = g.fp ∧ g'.r = g.r
  | [], g, _, _, R, ⟨h1, h2⟩, _, _, _ => ⟨g, [], by simp, R, Gr.refl, ⟨h1, rfl⟩, fun _ _ => rfl, by simp, rfl, rfl⟩
  | a :: as, g, _, _, R, ⟨v, ws, f1, f2, h1, h2, h3, h4⟩, nd, fr, e => by
    subst h1 h2
    obtain ⟨e1, e2⟩ := Bool.and_eq_true_iff.mp (show (fits dp ln a && as.all (fits dp ln)) = true from e)
    obtain ⟨n1, n2, n3⟩ := List.nodup_append.mp nd
    obtain ⟨g1, f1', s1, R1, gr1, rt1, o1, o2, o3, o4⟩ := fits_rk R h3 n1 (fun a ha => fr a (List.mem_append_left _ ha)) e1
    have own1 : ∀ a, Own g1 S a → Own g S a := fun a ⟨n, b, l, ha⟩ => ⟨n, b, l, by rw [← o3]; exact ha⟩
    obtain ⟨g2, f2', s2, R2, gr2, rt2, p1, p2, p3, p4⟩ := fitsL_rk R1 (RKs.keepP (Ex.refl H) gr1 h4) n2 (fun a ha => ⟨by rw [o1 a fun z => n3 a z a ha rfl]; exact (fr a (List.mem_append_right _ ha)).1, fun z => (fr a (List.mem_append_right _ ha)).2 (own1 a z)⟩) e2
    refine ⟨g2, f1' ++ f2', s1.append s2, R2, (gr1.trans gr2).imp fun a ha => .inr (.inr (List.mem_append.mpr ha)), ⟨v, ws, f1', f2', rfl, rfl, Rt.mono (Gh.G_ex gr2 ln) gr2.r (fun _ _ _ z => z) rt1, rt2⟩, fun a ha => ?_, fun a ha => ?_, p3.trans o3, p4.trans o4⟩
    · simp only [List.mem_append, not_or] at ha
      rw [p1 a ha.2, o1 a ha.1]
    · rcases List.mem_append.mp ha with q | q
      · rw [p1 a fun z => n3 a (s1.subset q) a z rfl]; exact o2 a q
      · exact p2 a q
theorem Fre.newCell (R' : Rg W g' S H) {p : Addr} (hp : H p = none) (s : f1.Sublist f) (nd : f.Nodup) (th : ∀ a ∈ f1, ∃ o, H a = some o) (l : ∀ a ∈ f1, g'.L a = none) (no : ∀ a ∈ f1, ¬ Own g' S a) : Fre g' S (fun x => x ∈ f ∨ H x = none) (p :: f1) := by
  refine ⟨List.nodup_cons.mpr ⟨fun z => ?_, nd.sublist s⟩, fun a ha => ?_⟩
  · obtain ⟨o, ho⟩ := th p z
    rw [hp] at ho; cases ho
  · rcases List.mem_cons.mp ha with e | e
    · subst e
      refine ⟨?_, fun ⟨n, b, q, hm⟩ => ?_, .inr hp⟩
      · cases q : g'.L a with
        | none => rfl
        | some o => rw [R'.lh a o q] at hp; cases hp
      · obtain ⟨o, ho⟩ := R'.box_there q a hm
        rw [hp] at ho; cases ho
    · exact ⟨l a e, no a e, .inl (s.subset e)⟩
theorem lstD_ok {dp : Nat} {ln : Bool} (R : Rg W g S H) (h : RKs W g S H bs vs f) (fr : Fre g S N f) (e : bs.all (fits dp ln) = true) (po : Po W g S H f (.fr (dp + 1) ln, .lst (bs.map (·.2))) Q) {p : Addr} (hp : H p = none) : Q (.ref p) (upd H p (.lst vs)) := by
  obtain ⟨g', f', s, R', gr, rt, o1, o2, o3, o4⟩ := fitsL_rk R h fr.nd (fre_T fr) e
  obtain ⟨R2, gr2⟩ := R'.new (o := .lst vs) hp trivial
  refine po g' _ _ (p :: f') R2 ((gr.trans gr2).imp fun a ha => .inr (.inr (ha.elim id False.elim))) (Ex.new hp) ⟨p, vs, f', rfl, rfl, upd_same, RtL.mono (Ex.refl _) (fun _ _ z => z) (fun a _ o z => Ex.new hp a o z) rt⟩ ?_
  exact Fre.newCell R' hp s fr.nd (fun a ha => rt.there a ha) o2 fun a ha ⟨n, b, l, q⟩ => (fr.fr a (s.subset ha)).2.1 ⟨n, b, l, by rw [← o3]; exact q⟩
theorem tupD_ok {dp : Nat} {ln : Bool} (R : Rg W g S H) (h : RKs W g S H bs vs f) (fr : Fre g S N f) (e : bs.all (fits dp ln) = true) (po : Po W g S H f (norm (.fr (dp + 1) ln, .tup (bs.map (·.2)))) Q) {p : Addr} (hp : H p = none) : Q (.ref p) (upd H p (.tup vs)) := by
  obtain ⟨g', f', s, R', gr, rt, o1, o2, o3, o4⟩ := fitsL_rk R h fr.nd (fre_T fr) e
  obtain ⟨R2, gr2, e2⟩ := R'.tupN (vs := vs) hp
  have rk : RK W (g'.tup p vs) S (upd H p (.tup vs)) (.fr (dp + 1) ln, .tup (bs.map (·.2))) (.ref p) f' := ⟨p, vs, rfl, e2 ln, RtL.mono (Gh.G_ex gr2 ln) gr2.r (fun a _ o z => Ex.new hp a o z) rt⟩
  obtain ⟨f'', s2, rk2⟩ := rk.norm R2
  refine po _ _ _ f'' R2 ((gr.trans gr2).imp fun a ha => .inr (.inr (ha.elim id False.elim))) (Ex.new hp) rk2 ?_
  have F := Fre.newCell R' hp s fr.nd (fun a ha => rt.there a ha) o2 fun a ha ⟨n, b, l, q⟩ => (fr.fr a (s.subset ha)).2.1 ⟨n, b, l, by rw [← o3]; exact q⟩
  have F2 : Fre g' S (fun x => x ∈ f ∨ H x = none) f'' := F.sub (s2.trans (List.sublist_cons_self _ _))
  exact F2.keep gr2 (fun a ha => rt.there a (s2.subset ha)) fun _ _ z => z
end
end Z

namespace Z
open PySem L2 PySem.Spec PyProof.Rows
section
variable {W : Wr} {t : Tb} {l : Lc} {g g' g1 g2 : Gh} {S S' S1 S2 : Sto} {H H' H1 H2 : Hp} {T T1 T2 N : Addr → Prop} {X : Cx} {v u x y : V} {vs : List V} {f f1 f2 : List Addr} {Q : VK} {a b r : Vd} {bs : List Vd}
theorem SqL.ty {K : PySem.W.Frag} {c : Addr} {us : List V} (h : SqL K H c us) : TyX K H (.ref c) (.type "list") := by
  rcases h with (h | ⟨o, h⟩) | ⟨o, its, n, h1, h2, _⟩
  · exact .base (.lst h)
  · exact .base (.frz h)
  · exact .kList h1 h2
theorem isT_ok (hK : X.K = W.K) (R : Rg W g S H) {n : Nat} (h : RK W g S H a x f) {q : Bool} (e : isT n a.2 = some q) : ∃ ty, TyX X.K H x (.type ty) ∧ PySem.W.kitOne X.K (.type ty) (.type (tyName n)) = some q := by
  have r := h.read R
  obtain ⟨k, d⟩ := a
  have ns : ∀ {P : Nat → Prop}, P 0 → P 1 → P 2 → P 3 → (∀ m, P (m + 4)) → P n := fun {P} p0 p1 p2 p3 p4 => by
    rcases n with _ | _ | _ | _ | m
    · exact p0
    · exact p1
    · exact p2
    · exact p3
    · exact p4 m
  cases d <;> first
    | (exfalso; cases e; done)
    | skip
  · have e' : some false = some q := e
    cases e'
    rw [show x = _ from r]
    refine ⟨"NoneType", .base .non, ns (P := fun n => PySem.W.kitOne X.K (.type "NoneType") (.type (tyName n)) = some false) (kit_ty (by decide +kernel)) (kit_ty (by decide +kernel)) (kit_ty (by decide +kernel)) (kit_ty (by decide +kernel)) fun m => kit_ty (b := "tuple") (by decide +kernel)⟩
  · have e' : some (decide (n = 0 ∨ n = 1)) = some q := e
    cases e'
    rw [show x = _ from r]
    refine ⟨"bool", .base (.bl _), ns (P := fun n => PySem.W.kitOne X.K (.type "bool") (.type (tyName n)) = some (decide (n = 0 ∨ n = 1))) ?_ ?_ ?_ ?_ fun m => ?_⟩
    iterate 4 exact kit_ty (by decide +kernel)
    rw [decide_eq_false (by omega)]
    exact kit_ty (b := "tuple") (by decide +kernel)
  · have e' : some (decide (n = 0)) = some q := e
    cases e'
    rw [show x = _ from r]
    refine ⟨"int", .base (.int _), ns (P := fun n => PySem.W.kitOne X.K (.type "int") (.type (tyName n)) = some (decide (n = 0))) ?_ ?_ ?_ ?_ fun m => ?_⟩
    iterate 4 exact kit_ty (by decide +kernel)
    rw [decide_eq_false (by omega)]
    exact kit_ty (b := "tuple") (by decide +kernel)
  · have e' : some (decide (n = 2)) = some q := e
    cases e'
    rw [show x = _ from r]
    refine ⟨"str", .base (.str _), ns (P := fun n => PySem.W.kitOne X.K (.type "str") (.type (tyName n)) = some (decide (n = 2))) ?_ ?_ ?_ ?_ fun m => ?_⟩
    iterate 4 exact kit_ty (by decide +kernel)
    rw [decide_eq_false (by omega)]
    exact kit_ty (b := "tuple") (by decide +kernel)
  · have e' : some (decide (4 ≤ n)) = some q := e
    cases e'
    obtain ⟨c, us, e1, e2, e3⟩ := r
    rw [e1]
    refine ⟨"tuple", .base (.tup e2), ns (P := fun n => PySem.W.kitOne X.K (.type "tuple") (.type (tyName n)) = some (decide (4 ≤ n))) ?_ ?_ ?_ ?_ fun m => ?_⟩
    iterate 4 exact kit_ty (by decide +kernel)
    rw [decide_eq_true (by omega)]
    exact kit_ty (b := "tuple") (by decide +kernel)
  · have e' : some (decide (n = 3)) = some q := e
    cases e'
    obtain ⟨c, us, e1, e2, e3⟩ := r
    rw [e1]
    refine ⟨"list", SqL.ty (by rw [hK]; exact e2), ns (P := fun n => PySem.W.kitOne X.K (.type "list") (.type (tyName n)) = some (decide (n = 3))) ?_ ?_ ?_ ?_ fun m => ?_⟩
    iterate 4 exact kit_ty (by decide +kernel)
    rw [decide_eq_false (by omega)]
    exact kit_ty (b := "tuple") (by decide +kernel)
  · have e' : some false = some q := e
    cases e'
    obtain ⟨c, kvs, e1, e2, e4, e3⟩ := r
    rw [e1]
    refine ⟨"dict", .base (.dK e2), ns (P := fun n => PySem.W.kitOne X.K (.type "dict") (.type (tyName n)) = some false) (kit_ty (by decide +kernel)) (kit_ty (by decide +kernel)) (kit_ty (by decide +kernel)) (kit_ty (by decide +kernel)) fun m => kit_ty (b := "tuple") (by decide +kernel)⟩
  · have e' : some false = some q := e
    cases e'
    obtain ⟨c, kvs, e1, e2, e4, e3⟩ := r
    rw [e1]
    refine ⟨"dict", .base (.dT e2), ns (P := fun n => PySem.W.kitOne X.K (.type "dict") (.type (tyName n)) = some false) (kit_ty (by decide +kernel)) (kit_ty (by decide +kernel)) (kit_ty (by decide +kernel)) (kit_ty (by decide +kernel)) fun m => kit_ty (b := "tuple") (by decide +kernel)⟩
theorem RKs.length : ∀ {as : List Vd} {vs : List V} {f : List Addr}, RKs W g S H as vs f → vs.length = as.length
  | [], _, _, ⟨h, _⟩ => by rw [h]; rfl
  | _ :: _, _, _, ⟨v, ws, f1, f2, h1, h2, h3, h4⟩ => by rw [h1, List.length_cons, List.length_cons, RKs.length h4]
theorem Po.dct (R : Rg W g S H) {o : HO} {d : D} {p : Addr} (nt : NoTup o) (hp : H p = none) (rt : ∀ (ρ : Rho) (G H' : Hp), H' p = some o → Rt W ρ G H' d 9 (.ref p) [p]) (po : Po W g S H f (.fr 9 false, d) Q) : Q (.ref p) (upd H p o) := by
  obtain ⟨R2, gr2⟩ := R.new (o := o) hp nt
  refine po g _ _ [p] R2 (gr2.imp fun _ z => z.elim) (Ex.new hp) (rt _ _ _ upd_same) ?_
  exact Fre.newCell (f1 := []) R hp (List.nil_sublist _) List.nodup_nil (by simp) (by simp) (by simp) |>.imp fun a ha z => .inr (z.elim (fun z => by cases z) id)
theorem spec_case {o : Op} (hc : opK o = .spec) (hK : X.K = W.K) (hu : X.A.units + 64 < cLine) (R : Rg W g S H) (h : RKs W g S H bs vs f) (fr : Fre g S N f) (e : opv o S bs = some r) (po : Po W g S H f r Q) : uSp W X o vs H Q := by
  have hu1 : X.A.units + 1 < cLine := by omega
  cases o <;> first
    | (exfalso; cases hc; done)
    | (exfalso; cases e; done)
    | skip
  · -- neg
    obtain ⟨a, d, rfl, e1, rfl⟩ := pure1_some' (show pure1 opNeg bs = some r from e)
    obtain ⟨x, rfl, hh⟩ := rks_one h
    obtain ⟨k, d1⟩ := a
    cases d1 <;> first
      | (exfalso; cases e1; done)
      | skip
    cases e1
    exact ⟨x, rfl, uU_of un_neg ⟨_, rk_int R hh, po.int R⟩⟩
  · -- not
    obtain ⟨a, d, rfl, e1, rfl⟩ := pure1_some' (show pure1 (fun d => (truthD d).map fun b => .bl (!b)) bs = some r from e)
    obtain ⟨x, rfl, hh⟩ := rks_one h
    obtain ⟨q, e2, rfl⟩ := Option.map_eq_some_iff.mp e1
    exact ⟨x, rfl, q, truthD_ok hK R hh e2, po.bl R⟩
  · -- is None
    obtain ⟨a, d, rfl, e1, rfl⟩ := pure1_some' (show pure1 (fun d => some (.bl (opIsN d))) bs = some r from e)
    obtain ⟨x, rfl, hh⟩ := rks_one h
    cases e1
    refine ⟨x, rfl, ?_⟩
    have rr := hh.read R
    obtain ⟨k, d1⟩ := a
    rw [show decide (x = V.non) = opIsN d1 from ?_]
    · exact po.bl R
    · cases d1 <;> first
        | (rw [show x = _ from rr]; rfl)
        | (obtain ⟨c, _, rr⟩ := rr; first | (rw [rr.1]; rfl) | (obtain ⟨_, rr⟩ := rr; first | (rw [rr.1]; rfl) | (rw [rr]; rfl)) | (rw [rr]; rfl))
  · obtain ⟨a, d, rfl, e1, rfl⟩ := pure1_some' (show pure1 (fun d => some (.bl (!opIsN d))) bs = some r from e)
    obtain ⟨x, rfl, hh⟩ := rks_one h
    cases e1
    refine ⟨x, rfl, ?_⟩
    have rr := hh.read R
    obtain ⟨k, d1⟩ := a
    rw [show decide (x = V.non) = opIsN d1 from ?_]
    · exact po.bl R
    · cases d1 <;> first
        | (rw [show x = _ from rr]; rfl)
        | (obtain ⟨c, _, rr⟩ := rr; first | (rw [rr.1]; rfl) | (obtain ⟨_, rr⟩ := rr; first | (rw [rr.1]; rfl) | (rw [rr]; rfl)) | (rw [rr]; rfl))
  · -- idx
    obtain ⟨a, b, rfl, e1⟩ := two_some (show two (opIdx S) bs = some r from e)
    obtain ⟨x, y, f1, f2, rfl, rfl, h1, h2⟩ := rks_two h
    exact ⟨x, y, rfl, opIdx_ok hK hu1 R h1 h2 fr e1 po⟩
  · -- slices
    rename_i lo hi
    have e' : opSl S lo hi bs = some r := e
    rcases bs with _ | ⟨a, rest⟩
    · cases e'
    · cases lo <;> cases hi
      · cases rest with
        | cons _ _ => cases e'
        | nil =>
          obtain ⟨x, rfl, hh⟩ := rks_one h
          exact ⟨x, rfl, slD_ok hK R hh fr e' po⟩
      · rcases rest with _ | ⟨⟨k2, d2⟩, _ | ⟨_, _⟩⟩
        · cases e'
        · cases d2 <;> first
            | (exfalso; cases e'; done)
            | skip
          obtain ⟨x, y, f1, f2, rfl, rfl, h1, h2⟩ := rks_two h
          rw [rk_int R h2]
          exact ⟨x, _, rfl, slD_ok hK R h1 (fr.sub (List.sublist_append_left _ _)) e' fun g' H' v fp R' gr ex rk fr' => po g' H' v fp R' (gr.imp fun a ha => .inr (.inr (List.mem_append_left _ ha))) ex rk (fr'.imp fun a _ z => z.imp (fun z => List.mem_append_left _ z) id)⟩
        · cases d2 <;> cases e'
      · rcases rest with _ | ⟨⟨k2, d2⟩, _ | ⟨_, _⟩⟩
        · cases e'
        · cases d2 <;> first
            | (exfalso; cases e'; done)
            | skip
          obtain ⟨x, y, f1, f2, rfl, rfl, h1, h2⟩ := rks_two h
          rw [rk_int R h2]
          exact ⟨x, _, rfl, slD_ok hK R h1 (fr.sub (List.sublist_append_left _ _)) e' fun g' H' v fp R' gr ex rk fr' => po g' H' v fp R' (gr.imp fun a ha => .inr (.inr (List.mem_append_left _ ha))) ex rk (fr'.imp fun a _ z => z.imp (fun z => List.mem_append_left _ z) id)⟩
        · cases d2 <;> cases e'
      · rcases rest with _ | ⟨⟨k2, d2⟩, _ | ⟨⟨k3, d3⟩, _ | ⟨_, _⟩⟩⟩
        · cases e'
        · cases d2 <;> cases e'
        · cases d2 <;> first
            | (exfalso; cases e'; done)
            | skip
          cases d3 <;> first
            | (exfalso; cases e'; done)
            | skip
          obtain ⟨x, y, z, f1, f2, f3, rfl, rfl, h1, h2, h3⟩ := rks_three h
          rw [rk_int R h2, rk_int R h3]
          exact ⟨x, _, _, rfl, slD_ok hK R h1 (fr.sub (List.sublist_append_left _ _)) e' fun g' H' v fp R' gr ex rk fr' => po g' H' v fp R' (gr.imp fun a ha => .inr (.inr (List.mem_append_left _ ha))) ex rk (fr'.imp fun a _ z => z.imp (fun z => List.mem_append_left _ z) id)⟩
        · cases d2 <;> cases d3 <;> cases e'
  · -- isinstance
    rename_i n
    obtain ⟨a, d, rfl, e1, rfl⟩ := pure1_some' (show pure1 (fun d => (isT n d).map fun b => .bl b) bs = some r from e)
    obtain ⟨x, rfl, hh⟩ := rks_one h
    obtain ⟨q, e2, rfl⟩ := Option.map_eq_some_iff.mp e1
    obtain ⟨ty, t1, t2⟩ := isT_ok hK R hh e2
    exact ⟨x, rfl, uC_of call_isi ⟨x, _, _, _, q, rfl, .ty _, t1, t2, po.bl R⟩⟩
  · rename_i dp ln
    obtain ⟨⟨q1, q2⟩, q3⟩ := ite_some (show (if bs.all (fits dp ln) = true ∧ bs.length ≤ sizeLine then some (norm (.fr (dp + 1) ln, .tup (bs.map (·.2)))) else none) = some r from e)
    subst q3
    refine ⟨?_, fun p hp => tupD_ok R h fr q1 po hp⟩
    rw [show vs.length = bs.length from RKs.length h]; exact q2
  · rename_i dp ln
    obtain ⟨⟨q1, q2⟩, q3⟩ := ite_some (show (if bs.all (fits dp ln) = true ∧ bs.length ≤ sizeLine then some ((.fr (dp + 1) ln, .lst (bs.map (·.2))) : Vd) else none) = some r from e)
    subst q3
    refine ⟨?_, fun p hp => lstD_ok R h fr q1 po hp⟩
    rw [show vs.length = bs.length from RKs.length h]; exact q2
  · cases bs with
    | cons _ _ => cases e
    | nil =>
      cases e
      exact fun p hp => Po.dct R (o := .dK []) (d := .dK [] []) trivial hp (fun ρ G H' z => ⟨p, [], [], rfl, rfl, z, rfl, rfl, rfl⟩) po
  · cases bs with
    | cons _ _ => cases e
    | nil =>
      cases e
      exact fun p hp => Po.dct R (o := .dT []) (d := .dT [] []) trivial hp (fun ρ G H' z => ⟨p, [], [], rfl, rfl, z, rfl, rfl, rfl⟩) po
  · rename_i fl
    obtain ⟨a, rfl, e1⟩ := one_some (show one (opFld S fl) bs = some r from e)
    obtain ⟨x, rfl, hh⟩ := rks_one h
    obtain ⟨k, d1⟩ := a
    cases d1 <;> first
      | (exfalso; cases e1; done)
      | skip
    rename_i c fs xs
    obtain ⟨j, q1, q2⟩ := Option.bind_eq_some_iff.mp (show (posOf fs fl).bind (fun j => kid S k xs j) = some r from e1)
    obtain ⟨j', d, k', t1, t2, t3, rfl⟩ := kid_some q2
    obtain ⟨rfl, hj⟩ := ixN_nat t1
    obtain ⟨ws, w, f', s1, s2, s3, s4, s5⟩ := kid_rk R hh t2 t3
    obtain ⟨a, dx, l, w1, w2, w3, w4⟩ := s1
    refine ⟨x, a, c, dx, l, w, rfl, w1, w2, ?_, po.kid R fr s4 s5⟩
    rw [pos_lookup, w3, q1, ← w4]
    exact s3
theorem opv_ok {o : Op} (F : Ft X W t l) (hq : hotOp o = false → X.calm = true) (R : Rg W g S H) (h : RKs W g S H bs vs f) (fr : Fre g S N f) (e : opv o S bs = some r) (po : Po W g S H f r Q) : uOp W X o vs H Q := by
  unfold uOp
  cases hc : opK o with
  | bin b =>
    have h2 : ∃ a b, bs = [a, b] := by
      cases o <;> first
        | (exfalso; cases hc; done)
        | skip
      all_goals (obtain ⟨a, b, e1, _⟩ := two_some e; exact ⟨a, b, e1⟩)
    obtain ⟨a1, b1, rfl⟩ := h2
    obtain ⟨x, y, f1, f2, rfl, rfl, h1, h2⟩ := rks_two h
    refine ⟨x, y, rfl, bin_ok (o := o) ?_ F.K R h1 h2 fr e po⟩
    cases o <;> first
      | (exfalso; cases hc; done)
      | (cases hc; rfl)
  | cmp c =>
    have h2 : ∃ a b, bs = [a, b] := by
      cases o <;> first
        | (exfalso; cases hc; done)
        | skip
      all_goals first
        | (obtain ⟨a, b, e1, _⟩ := two_some e; exact ⟨a, b, e1⟩)
        | (obtain ⟨a, b, d, e1, _⟩ := pure2_some' e; exact ⟨a, b, e1⟩)
    obtain ⟨a1, b1, rfl⟩ := h2
    obtain ⟨x, y, f1, f2, rfl, rfl, h1, h2⟩ := rks_two h
    exact ⟨x, y, rfl, cmp_ok hc F.K F.un R h1 h2 e po⟩
  | blt nm id n => exact blt_case hc F.K hq R h fr e po
  | typ nm T n => exact typ_case hc F.K hq R h fr e po
  | mth T nm id n => exact mth_case hc F.K F.un R h fr e po
  | spec => exact spec_case hc F.K F.un R h fr e po
end
end Z

namespace Z
open PySem L2 PySem.Spec PyProof.Rows
def constB : D → Const → Bool
  | .int i, .int j => decide (i = j)
  | .bl i, .bool j => decide (i = j)
  | .str i, .str j => decide (i = j)
  | .non, .none => true
  | _, _ => false
def constB' : D → Const → Bool := constB
def OpK.cmpO : OpK → Option CmpOp
  | .cmp c => some c
  | _ => none
def itPlain : Expr → Bool
  | .Set _ _ _ => false
  | _ => true
def mutB (mo : Mo) (y : Str) (n : Nat) : Bool := match mo with
  | .append => decide (y = "append") && n == 1
  | .extend => decide (y = "extend") && n == 1
  | .pop0 => decide (y = "pop") && n == 0
  | .pop1 => decide (y = "pop") && n == 1
  | .insert => decide (y = "insert") && n == 2
  | .remove => decide (y = "remove") && n == 1
  | .reverse => decide (y = "reverse") && n == 0
  | .clear => decide (y = "clear") && n == 0
/-- a comprehension's scope as it stands in its block -/
def rel (i o : Scope) : Scope := { i with names := i.names.map fun (n, k) => if (k == .free && o.kind == .function && o.names.lookup n == some .cell) then (n, .cell) else (n, k) }
def Lc.sub (l : Lc) (sc : Scope) : Lc := ⟨l.N, rel sc l.sc, fun x => sc.names.lookup x == some .cell, l.hot⟩
def eqFl : D → D → Bool
  | .int i, .int j => decide (i = j)
  | .bl i, .bl j => decide (i = j)
  | .str i, .str j => decide (i = j)
  | .non, .non => true
  | _, _ => false
theorem eqFl_eq {a b : D} (h : eqFl a b = true) : a = b := by
  unfold eqFl at h
  split at h <;> first
    | (rw [of_decide_eq_true h]; done)
    | rfl
    | cases h
def lineB (a p : Pos) : Bool := a.endLine == p.line
/-- is the n-th global def this one, may it be called with so many arguments -/
def fnB (t : Tb) (P : Pg) (f : Nat) (y : Str) (n : Nat) : Bool := decide (t.fns[f]? = some y) && okNm y && match P.fns[f]? with
  | some fi => decide (n ≤ fi.np) && decide (fi.np - n ≤ fi.dfl.length)
  | none => false
def methB (P : Pg) (f : Nat) (n : Nat) : Bool := match P.fns[f]? with
  | some fi => decide (n ≤ fi.np) && decide (fi.np - n ≤ fi.dfl.length)
  | none => false
def Nodup' (l : List Nat) : Bool := decide l.Nodup
def ownL (l : Lc) (tg : List Nat) : List (Str × Nat) := tg.map fun i => (l.N.getD i "", i)
/-- the target of a walk -/
def mTg (l : Lc) (tg : List Nat) (tp : Bool) (x : Expr) : Bool := if tp then (match x with
  | .Tuple es _ _ => decide (es.length = tg.length) && (es.zip tg).all fun (e, i) => (match e with
    | .Name y _ => decide (l.N[i]? = some y) && (kindB l y .local || (kindB l y .cell && l.fn y))
    | _ => false)
  | _ => false) else (match x, tg with
  | .Name y _, [i] => decide (l.N[i]? = some y) && (kindB l y .local || (kindB l y .cell && l.fn y))
  | _, _ => false)
/-- pairs of a walk with numbers go to a pair of names -/
def enuOk (it : It) (tp : Bool) : Bool := match it with
  | .enu _ => tp
  | _ => true
/-- its test is its value's truth -/
def tstP : Expr → Bool
  | .Name _ _ | .Call _ _ _ _ | .Attribute _ _ _ | .Subscript _ _ _ | .Constant _ _ _ | .BinOp _ _ _ _ | .ListComp _ _ _ _ => true
  | _ => false
def tstB : Expr → Bool
  | .Compare _ [op] [c] _ => !behindInMarks op c
  | .Compare _ [p, q] [y, z] _ => !lastMarks [p, q] [y, z]
  | x => tstP x
section
variable (t : Tb) (P : Pg)
mutual
def mE (l : Lc) : E → Expr → Bool
  | .v i _, .Name x _ => decide (l.N[i]? = some x) && visB l x && okNm x
  | .k d, .Constant c _ _ => constB d c
  | .g y c, .Name x _ => decide (y = x) && gloB l x && okNm x && t.con.any fun p => decide (p.1 = y) && eqFl p.2 c
  | .op o es, x => (!l.hot || hotOp o) && match mOp t l o x with
    | some xs => mEs l es xs
    | none => false
  | .ch o1 o2 a b c, .Compare x [p, q] [y, z] _ => decide ((opK o1).cmpO = some p) && decide ((opK o2).cmpO = some q) && !lastMarks [p, q] [y, z] && mE l a x && mE l b y && mE l c z
  | .and' a b, .BoolOp .And (x :: y :: r) p => mE l a x && (match r with
    | [] => mE l b y
    | r => mE l b (.BoolOp .And (y :: r) p))
  | .or' a b, .BoolOp .Or (x :: y :: r) p => mE l a x && (match r with
    | [] => mE l b y
    | r => mE l b (.BoolOp .Or (y :: r) p))
  | .call _ f es, .Call (.Name y _) as [] _ => !l.hot && fnB t P f y as.length && gloB l y && as.all plainE && mEs l es as
  | .meth _ m o es, .Call (.Attribute r y ap) as [] cp => !l.hot && decide (y = m) && plainBase r && lineB ap cp && as.all plainE && decide (as.length < 20) && mE l o r && mEs l es as
  | .mk _ c _ _ es, .Call (.Name y _) as [] _ => !l.hot && decide (t.cls[c]? = some y) && okNm y && gloB l y && as.all plainE && mEs l es as
  | .mut mo o es, .Call (.Attribute r y ap) as [] cp => mutB mo y as.length && plainBase r && lineB ap cp && as.all plainE && mE l o r && mEs l es as
  | .lc _ _ tg tp it ifs elt, .ListComp x [⟨tgx, itx, ifx, 0⟩] sc _ => !l.hot && decide tg.Nodup && blkC l.N l.sc sc (ownL l tg) && mTg (l.sub sc) tg tp tgx && enuOk it tp && mIt l it itx && mCs (l.sub sc) ifs ifx && mE (l.sub sc) elt x
  | .isX o i, .Call (.Name y _) [.Name e _, .Name T _] [] _ => l.hot && decide (y = "isinstance") && gloB l y && decide (y ∈ t.free) && decide (l.N[i]? = some e) && visB l e && okNm e && (match o with
    | none => decide (T = "ValueError") && gloB l T && decide (T ∈ t.free)
    | some c => decide (t.exc[c]? = some T) && gloB l T && okNm T)
  | .callX f i, .Call (.Name y _) [.Name e _] [] _ => l.hot && decide (t.fns[f]? = some y) && okNm y && gloB l y && (match P.fns[f]? with
    | some fi => fi.hot
    | none => false) && decide (l.N[i]? = some e) && visB l e && okNm e
  | _, _ => false
def mEs (l : Lc) : List E → List Expr → Bool
  | [], [] => true
  | e :: es, x :: xs => mE l e x && mEs l es xs
  | _, _ => false
def mIt (l : Lc) : It → Expr → Bool
  | .seq e, x => plainE x && mE l e x && itPlain x
  | .rng es, .Call (.Name y _) as [] _ => decide (y = "range") && gloB l y && decide (y ∈ t.free) && as.all plainE && as.length.ble 2 && mEs l es as
  | .enu e, .Call (.Name y _) [a] [] _ => decide (y = "enumerate") && gloB l y && decide (y ∈ t.free) && plainE a && mE l e a
  | .rev e, .Call (.Name y _) [a] [] _ => decide (y = "reversed") && gloB l y && decide (y ∈ t.free) && plainE a && mE l e a
  | _, _ => false
def mC (l : Lc) : Cd → Expr → Bool
  | .and' a b, .BoolOp .And (x :: y :: r) p => mC l a x && (match r with
    | [] => mC l b y
    | r => mC l b (.BoolOp .And (y :: r) p))
  | .or' a b, .BoolOp .Or (x :: y :: r) p => mC l a x && (match r with
    | [] => mC l b y
    | r => mC l b (.BoolOp .Or (y :: r) p))
  | .not' a, .UnaryOp .Not x _ => mC l a x
  | .b e, x => mE l e x && tstB x
  | .t e, x => mE l e x && tstP x
  | _, _ => false
def mCs (l : Lc) : List Cd → List Expr → Bool
  | [], [] => true
  | [c], [x] => mC l c x
  | _, _ => false
end
end
structure Fns where
  fa : Nat → Addr
  fd : Nat → FuncData
  ps : Nat → List Str
def ArgsR (W : Wr) (g : Gh) : List (Bool × D) → List V → Prop
  | [], vs => vs = []
  | (l, d) :: as, vs => ∃ v ws, vs = v :: ws ∧ Rv W g.r (g.G l) d v ∧ ArgsR W g as ws
/-- what a call hands on -/
def RetOk (W : Wr) (g : Gh) (S : Sto) (H : Hp) (k : Kd) (d : D) (S' : Sto) (Q : VK) : Prop := ∀ (g' : Gh) (H' : Hp) (v : V) (fp : List Addr), Rg W g' S' H' → Gr T0 g S H g' S' H' → RK W g' S' H' (k, d) v fp → Fre g' S' (fun a => H a = none ∨ OwnU g S a) fp → Q v H'
def ExcOk (W : Wr) (g : Gh) (S : Sto) (H : Hp) (c : Nat) (S' : Sto) (E : Hp → Prop) : Prop := ∀ (g' : Gh) (H' : Hp), Rg W g' S' H' → Gr T0 g S H g' S' H' → E H'
def spZ (W : Wr) (call : List (Bool × D) → Sto → R (Kd × D × Sto)) (np : Nat) : Sp := fun vs H Q E => vs.length = np ∧ ∃ g S as, Rg W g S H ∧ ArgsR W g as vs ∧ match call as S with
  | .ok (k, d, S') => RetOk W g S H k d S' Q
  | .exc c S' => ExcOk W g S H c S' (E (.ref (W.xc c)) none)
  | .stuck => False
/-- the error of the except suite one is in -/
def HotQ (X : Cx) (W : Wr) (nx : Nat) : Prop := ∃ m a k oe, W.xs = some (m, a, k) ∧ (a, oe) ∈ X.pn ∧ Zc (.ref (W.xc k)) none oe ∧ (∃ vs, oe.data = .fields vs) ∧ k < nx
/-- what is so of the classes of errors -/
structure XFa (K : PySem.W.Frag) (W : Wr) (t : Tb) (nx : Nat) : Prop where
  len : t.exc.length = nx
  cl : ∀ k, k < nx → ExcC K (W.xc k)
  sub : ∀ j k, j < nx → k < nx → PySem.W.exmOne K (.ref (W.xc j)) (.ref (W.xc k)) = some (subX j (some k))
  val : ∀ k, k < nx → PySem.W.kitOne K (.ref (W.xc k)) (.type "ValueError") = some true
/-- what a def called from an except suite with the error promises -/
def spX (W : Wr) (r : Nat → R (Kd × D × Sto)) (k : Nat) (a : Addr) (H : Hp) (Q : VK) : Prop := ∃ g, Rg (W.at_ none) g [none] H ∧ g.r 0 = some a ∧ match r k with
  | .ok (k', d, S') => RetOk (W.at_ none) g [none] H k' d S' Q
  | _ => False
structure FnX (P : Program) (w : World) (K : PySem.W.Frag) (mg : Str → Option Value) (base : Heap) (W : Wr) (nx : Nat) (f : Addr) (fd : FuncData) (ps : List Str) (r : Nat → R (Kd × D × Sto)) : Prop where
  run : ∀ (A : Around) (outer : List Env) (s : Shared) (H : Hp) (args : Args) (p : Addr × Obj) (k : Nat) (Q : VK), L2H.RoomH 1 A → L2H.PinOk outer H s p → Zc (.ref (W.xc k)) none p.2 → (∃ vs, p.2.data = .fields vs) → k < nx → Env0 P w K mg base A outer s H → BindsTo s fd args (ps.zip [.ref p.1]) → spX W r k p.1 H Q →
    codeAny (model P w) A (.call (.ref f) args) (CR (L2.CX P w) outer P w H s Q fun _ _ _ => False) s
structure Cf (X : Cx) (W : Wr) (t : Tb) (P : Pg) (F : Fns) (n : Nat) (l : Lc) (wx : WX) : Prop extends Ft X W t l where
  room : l.hot = false → Room (2 * n + 1) X.A
  tk : Takes X wx
  own : PassesOwn (model X.prog X.w) X.A X.env X.xe
  exc : ∀ c y, t.exc[c]? = some y → X.mg y = some (.ref (W.xc c)) ∧ PySem.W.keepIn X.K (.ref (W.xc c)) = true ∧ Raises X (.ref (W.xc c)) ∧ ∃ (bmB : List Value) (B newId initId : String), ExcBaseFacts B newId initId bmB ∧ PySem.W.excIn X.K (W.xc c) bmB newId = true
  fnx : X.fn = l.fn
  ok : l.hot = false → ∀ f fi, P.fns[f]? = some fi → FnOk X.prog X.w X.K X.mg X.base (L2.CX X.prog X.w) (2 * n) (F.fa f) (F.fd f) (F.ps f) (spZ W (run P n f) fi.np)
  psl : ∀ f fi, P.fns[f]? = some fi → (F.ps f).length = fi.np
  mgf : ∀ f y, t.fns[f]? = some y → X.mg y = some (.ref (F.fa f)) ∧ PySem.W.keepIn X.K (.ref (F.fa f)) = true
  bnd : ∀ f fi, P.fns[f]? = some fi → ∀ j, j ≤ fi.dfl.length → ∃ ds dvs, Binds X.K (F.fd f) (F.ps f) ds ∧ Vals dvs ds ∧ ∀ ρ G, RvL W ρ G (fi.dfl.drop (fi.dfl.length - j)) dvs
  mth : ∀ c ci m f, P.cls[c]? = some ci → ci.meths.lookup m = some f → Meth X.K (W.cl c) m (F.fa f) ∧ ∃ fi, P.fns[f]? = some fi
  cls : ∀ c ci, P.cls[c]? = some ci → Cls X.K (W.cl c)
  hotq : l.hot = true → HotQ X W P.nx ∧ (P.fns ≠ [] → L2H.RoomH 1 X.A)
  xfa : XFa X.K W t P.nx
  xfn : ∀ f fi, P.fns[f]? = some fi → fi.hot = true → fi.np = 1 ∧ FnX X.prog X.w X.K X.mg X.base W P.nx (F.fa f) (F.fd f) (F.ps f) (runX P f)
  mkc : ∀ c y, t.cls[c]? = some y → X.mg y = some (.ref (W.cl c)) ∧ ∀ ci f, P.cls[c]? = some ci → ci.meths.lookup ("__init__" : Str) = some f → Mk X.K (W.cl c) (F.fa f)
end Z

namespace Z
open PySem L2 PySem.Spec PyProof.Rows
/-- the error of the except suite, in its dead box -/
def XsOk (W : Wr) (g : Gh) : Prop := ∀ m a k, W.xs = some (m, a, k) → g.r m = some a
def EnvOk (W : Wr) (g : Gh) (σ : L2.St) (env : EnvD) : Prop := (env.length = σ.length ∧ XsOk W g) ∧ ∀ (i : Nat) (l : Bool) (d : D), env[i]? = some (some (l, d)) → (∃ v, σ[i]? = some (some v) ∧ Rv W g.r (g.G l) d v)
section
variable {W : Wr} {t : Tb} {P : Pg} {F : Fns} {n : Nat} {l : Lc} {wx : WX} {g g' g1 g2 : Gh} {S S' S1 S2 : Sto} {H H' H1 H2 : Hp} {T T1 T2 N : Addr → Prop} {X : Cx} {v u x y : V} {vs : List V} {f f1 f2 fp : List Addr} {Q : VK} {a b r : Vd} {as bs : List Vd} {σ : L2.St} {env : EnvD} {k : Kd} {d : D} {m m1 m2 : Bool}
theorem EnvOk.mono (e : EnvOk W g σ env) (h : Gr T g S H g' S' H') : EnvOk W g' σ env := ⟨⟨e.1.1, fun m a k q => h.r m a (e.1.2 m a k q)⟩, fun i l d q => by
  obtain ⟨v, h1, h2⟩ := e.2 i l d q
  exact ⟨v, h1, Rv.mono (Gh.G_ex h l) h.r h2⟩⟩
theorem Gr.trans0 (h : Gr T0 g S H g1 S1 H1) (k : Gr T0 g1 S1 H1 g2 S2 H2) : Gr T0 g S H g2 S2 H2 := (h.trans k).imp fun _ z => z.elim False.elim False.elim
/-- nobody's new cells were taken -/
theorem Gr.trans1 (h : Gr T0 g S H g1 S1 H1) (fr : Fre g1 S1 (fun a => H a = none ∨ OwnU g S a) f) (k : Gr (· ∈ f) g1 S1 H1 g2 S2 H2) : Gr T0 g S H g2 S2 H2 := (h.trans k).imp fun a z => z.elim False.elim fun z => by
  rcases (fr.fr a z).2.2 with q | q
  · exact .inl q
  · exact .inr (.inl q)
/-- new, seen from before -/
theorem new_back (h : Gr T0 g S H g1 S1 H1) {a : Addr} (q : H1 a = none ∨ OwnU g1 S1 a) : H a = none ∨ OwnU g S a := by
  rcases q with q | q
  · rcases h.none_back q with z | z | z
    · exact .inl z
    · exact .inr z
    · exact z.elim
  · rcases h.oo a q with z | z | z
    · exact .inr z
    · exact .inl z
    · exact z.elim
def PoR (W : Wr) (g : Gh) (S : Sto) (H : Hp) (k : Kd) (d : D) (S' : Sto) (m : Bool) (Q : VK) : Prop := ∀ (g' : Gh) (H' : Hp) (v : V) (fp : List Addr), Rg W g' S' H' → Gr T0 g S H g' S' H' → (m = false → S' = S ∧ Ex H H') → RK W g' S' H' (k, d) v fp → Fre g' S' (fun a => H a = none ∨ OwnU g S a) fp → Q v H'
def PoL (W : Wr) (g : Gh) (S : Sto) (H : Hp) (as : List Vd) (S' : Sto) (m : Bool) (Q : List V → Hp → Prop) : Prop := ∀ (g' : Gh) (H' : Hp) (vs : List V) (fp : List Addr), Rg W g' S' H' → Gr T0 g S H g' S' H' → (m = false → S' = S ∧ Ex H H') → RKs W g' S' H' as vs fp → Fre g' S' (fun a => H a = none ∨ OwnU g S a) fp → Q vs H'
def EvP (W : Wr) (wx : WX) (σ : L2.St) (g : Gh) (S : Sto) (H : Hp) (r : R Res) (Q : VK) : Prop := match r with
  | .ok (k, d, S', m) => PoR W g S H k d S' m Q
  | .exc c S' => ExcOk W g S H c S' (wx (.ref (W.xc c)) none σ)
  | .stuck => False
def EvL (W : Wr) (wx : WX) (σ : L2.St) (g : Gh) (S : Sto) (H : Hp) (r : R (List Vd × Sto × Bool)) (Q : List V → Hp → Prop) : Prop := match r with
  | .ok (as, S', m) => PoL W g S H as S' m Q
  | .exc c S' => ExcOk W g S H c S' (wx (.ref (W.xc c)) none σ)
  | .stuck => False
theorem ExcOk.from {c : Nat} {E : Hp → Prop} (gr : Gr T0 g S H g1 S1 H1) (h : ExcOk W g S H c S2 E) : ExcOk W g1 S1 H1 c S2 E := fun g' H' R q => h g' H' R (gr.trans0 q)
theorem PoR.po (gr : Gr T0 g S H g1 S1 H1) (hm : m = false → S1 = S ∧ Ex H H1) (fr : Fre g1 S1 (fun a => H a = none ∨ OwnU g S a) f) (h : PoR W g S H k d S1 m Q) : Po W g1 S1 H1 f (k, d) Q := fun g' H' v fp R' gr' ex rk fr' => by
  refine h g' H' v fp R' (gr.trans1 fr gr') (fun z => ⟨(hm z).1, (hm z).2.trans ex⟩) rk (fr'.imp fun a _ q => ?_)
  rcases q with q | q
  · exact (fr.fr a q).2.2
  · exact new_back gr (.inl q)
theorem bind_ok {α β : Type} {r : R α} {f : α → R β} {b : β} (h : r.bind f = .ok b) : ∃ a, r = .ok a ∧ f a = .ok b := by
  cases r with
  | ok a => exact ⟨a, rfl, h⟩
  | exc c S => cases h
  | stuck => cases h
/-- what an evaluation leads to, on -/
theorem EvP.bind {α : Type} {r : R Res} {f : Res → R α} {Pα : R α → Prop} (hx : ∀ c S', Pα (.exc c S') → ExcOk W g S H c S' (wx (.ref (W.xc c)) none σ)) (hs : ¬ Pα .stuck) (h : Pα (r.bind f))
    (hok : ∀ k d S' m, Pα (f (k, d, S', m)) → PoR W g S H k d S' m Q) : EvP W wx σ g S H r Q := by
  cases r with
  | ok a =>
    obtain ⟨k, d, S', m⟩ := a
    exact hok k d S' m h
  | exc c S' => exact hx c S' h
  | stuck => exact hs h
theorem EvL.bind {α : Type} {r : R (List Vd × Sto × Bool)} {f : List Vd × Sto × Bool → R α} {Pα : R α → Prop} {QL : List V → Hp → Prop} (hx : ∀ c S', Pα (.exc c S') → ExcOk W g S H c S' (wx (.ref (W.xc c)) none σ)) (hs : ¬ Pα .stuck) (h : Pα (r.bind f))
    (hok : ∀ as S' m, Pα (f (as, S', m)) → PoL W g S H as S' m QL) : EvL W wx σ g S H r QL := by
  cases r with
  | ok a =>
    obtain ⟨as, S', m⟩ := a
    exact hok as S' m h
  | exc c S' => exact hx c S' h
  | stuck => exact hs h
/-- a fresh value and fresh ones behind it -/
theorem cons_keep (gr : Gr T0 g S H g1 S1 H1) (rk : RK W g S H a v f1) (fr : Fre g S N f1) (hm : (m && isTn a) = false) (me : m = false → S1 = S ∧ Ex H H1) : RK W g1 S1 H1 a v f1 ∧ Fre g1 S1 N f1 := by
  refine ⟨?_, fr.keep gr (fun a ha => rk.there a ha) fun _ _ z => z⟩
  cases q : isTn a with
  | false => exact rk.keep gr q fun b hb => ⟨(fr.fr b hb).2.1, fun z => z⟩
  | true =>
    rw [q, Bool.and_true] at hm
    obtain ⟨e1, e2⟩ := me hm
    subst e1
    exact rk.keepP e2 gr
theorem fre_app (gr : Gr T0 g S H g1 S1 H1) (th : ∀ b ∈ f1, ∃ o, H1 b = some o) (h1 : Fre g1 S1 N f1) (h2 : Fre g2 S2 (fun a => H1 a = none ∨ OwnU g1 S1 a) f2) (h1' : Fre g2 S2 N f1) (k : ∀ a, H1 a = none ∨ OwnU g1 S1 a → N a) : Fre g2 S2 N (f1 ++ f2) := by
  refine ⟨List.nodup_append.mpr ⟨h1'.nd, h2.nd, fun a ha b hb e => ?_⟩, fun a ha => ?_⟩
  · subst e
    obtain ⟨o, ho⟩ := th a ha
    rcases (h2.fr a hb).2.2 with q | q
    · rw [ho] at q; cases q
    · exact (h1.fr a ha).2.1 q.own
  · rcases List.mem_append.mp ha with q | q
    · exact h1'.fr a q
    · obtain ⟨z1, z2, z3⟩ := h2.fr a q
      exact ⟨z1, z2, k a z3⟩
/-- a box read -/
theorem RK.der (R : Rg W g S H) (h : RK W g S H a v f) (e : Z.der S a = some b) : RK W g S H b v f := by
  obtain ⟨k, d⟩ := a
  cases d <;> first
    | (have e' : some (k, _) = some b := e; cases e'; exact h)
    | skip
  rename_i n
  have hv : ∃ a, g.r n = some a ∧ v = .ref a ∧ f = [] := by
    cases k with
    | vl l =>
      obtain ⟨h0, c, h1, h2⟩ := h
      exact ⟨c, h1, h2, h0⟩
    | fr j l =>
      obtain ⟨h0, c, h1, h2⟩ := h
      exact ⟨c, h1, h2, h0⟩
    | tn n' p =>
      obtain ⟨c, h1, h2⟩ := h.read R
      exact ⟨c, h1, h2, h.1⟩
  obtain ⟨c, h1, rfl, rfl⟩ := hv
  have e' : (match S[n]? with
    | some (some b) => some ((.tn n [], b.d) : Vd)
    | _ => none) = some b := e
  cases q : S[n]? with
  | none => rw [q] at e'; cases e'
  | some o =>
    cases o with
    | none => rw [q] at e'; cases e'
    | some bx =>
      rw [q] at e'; cases e'
      exact ⟨rfl, bx, c, bx.dp, q, h1, rfl, rfl, rfl⟩
theorem RKs.der (R : Rg W g S H) : ∀ {as bs : List Vd} {vs : List V} {f : List Addr}, RKs W g S H as vs f → derL S as = some bs → RKs W g S H bs vs f
  | [], bs, _, _, h, e => by cases e; exact h
  | a :: as, bs, _, _, ⟨v, ws, f1, f2, h1, h2, h3, h4⟩, e => by
    obtain ⟨b, e1, e⟩ := Option.bind_eq_some_iff.mp (show (Z.der S a).bind (fun b => (derL S as).map fun bs => b :: bs) = some bs from e)
    obtain ⟨cs, e2, e3⟩ := Option.map_eq_some_iff.mp e
    subst e3
    exact ⟨v, ws, f1, f2, h1, h2, h3.der R e1, RKs.der R h4 e2⟩
theorem asVal_rk (R : Rg W g S H) (h : RK W g S H a v f) (nd : f.Nodup) (fr : ∀ a ∈ f, g.L a = none ∧ ¬ Own g S a) {l : Bool} (e : asVal a = some l) :
    ∃ g', Rg W g' S H ∧ Gr (· ∈ f) g S H g' S H ∧ Rv W g'.r (g'.G l) a.2 v ∧ (∀ a, a ∉ f → g'.L a = g.L a) ∧ g'.fp = g.fp ∧ g'.r = g.r := by
  obtain ⟨k, d⟩ := a
  unfold asVal at e
  dsimp only at e
  by_cases i : d.imm = true
  · rw [if_pos i] at e; cases e
    exact ⟨g, R, Gr.refl, (h.imm R i).2, fun _ _ => rfl, rfl, rfl⟩
  · rw [if_neg i] at e
    cases k with
    | vl l' => cases e; exact ⟨g, R, Gr.refl, h.2, fun _ _ => rfl, rfl, rfl⟩
    | fr j l' =>
      cases e
      obtain ⟨g', f', s, R', gr, h', o1, o2, o3, o4⟩ := R.wk (j := 0) (m := l) h nd fr (Nat.zero_le _) (by cases l <;> rfl)
      exact ⟨g', R', gr, (Rt.freeze0 h').2, o1, o3, o4⟩
    | tn n p => cases e
theorem argsI_rk : ∀ {as : List Vd} {xs : List (Bool × D)} {g : Gh} {vs : List V} {f : List Addr}, Rg W g S H → RKs W g S H as vs f → f.Nodup → (∀ a ∈ f, g.L a = none ∧ ¬ Own g S a) → argsI as = some xs →
    ∃ g', Rg W g' S H ∧ Gr (· ∈ f) g S H g' S H ∧ ArgsR W g' xs vs ∧ g'.fp = g.fp ∧ g'.r = g.r
  | [], xs, g, _, _, R, ⟨h1, h2⟩, _, _, e => by cases e; exact ⟨g, R, Gr.refl, h1, rfl, rfl⟩
  | a :: as, xs, g, _, _, R, ⟨v, ws, f1, f2, h1, h2, h3, h4⟩, nd, fr, e => by
    subst h1 h2
    obtain ⟨x, e1, e⟩ := Option.bind_eq_some_iff.mp (show (argI a).bind (fun x => (argsI as).map fun xs => x :: xs) = some xs from e)
    obtain ⟨ys, e2, e3⟩ := Option.map_eq_some_iff.mp e
    subst e3
    obtain ⟨l, e4, e5⟩ := Option.map_eq_some_iff.mp (show (asVal a).map (fun l => (l, a.2)) = some x from e1)
    subst e5
    obtain ⟨n1, n2, n3⟩ := List.nodup_append.mp nd
    obtain ⟨g1, R1, gr1, rv1, o1, o3, o4⟩ := asVal_rk R h3 n1 (fun a ha => fr a (List.mem_append_left _ ha)) e4
    have own1 : ∀ a, Own g1 S a → Own g S a := fun a ⟨n, b, l, ha⟩ => ⟨n, b, l, by rw [← o3]; exact ha⟩
    obtain ⟨g2, R2, gr2, ar2, p3, p4⟩ := argsI_rk R1 (RKs.keepP (Ex.refl H) gr1 h4) n2 (fun a ha => ⟨by rw [o1 a fun z => n3 a z a ha rfl]; exact (fr a (List.mem_append_right _ ha)).1, fun z => (fr a (List.mem_append_right _ ha)).2 (own1 a z)⟩) e2
    exact ⟨g2, R2, (gr1.trans gr2).imp fun a ha => .inr (.inr (List.mem_append.mpr ha)), ⟨v, ws, rfl, Rv.mono (Gh.G_ex gr2 l) gr2.r rv1, ar2⟩, p3.trans o3, p4.trans o4⟩
theorem ArgsR.append : ∀ {xs ys : List (Bool × D)} {vs us : List V}, ArgsR W g xs vs → ArgsR W g ys us → ArgsR W g (xs ++ ys) (vs ++ us)
  | [], _, _, _, h, k => by rw [show _ = [] from h]; exact k
  | _ :: _, _, _, _, ⟨v, ws, h1, h2, h3⟩, k => ⟨v, ws ++ _, by rw [h1]; rfl, h2, ArgsR.append h3 k⟩
theorem ArgsR.length : ∀ {xs : List (Bool × D)} {vs : List V}, ArgsR W g xs vs → vs.length = xs.length
  | [], _, h => by rw [show _ = [] from h]; rfl
  | _ :: _, _, ⟨v, ws, h1, h2, h3⟩ => by rw [h1, List.length_cons, List.length_cons, ArgsR.length h3]
theorem ArgsR.dfl : ∀ {ds : List D} {vs : List V}, RvL W g.r g.F ds vs → ArgsR W g (ds.map fun d => (false, d)) vs
  | [], _, h => h
  | _ :: _, _, ⟨v, ws, h1, h2, h3⟩ => ⟨v, ws, h1, h2, ArgsR.dfl h3⟩
/-- defaults go without saying -/
theorem run_dfl {P : Pg} {n f : Nat} {fi : FnI} (hf : P.fns[f]? = some fi) (as : List (Bool × D)) (S : Sto) (h : as.length ≤ fi.np) (hd : fi.np - as.length ≤ fi.dfl.length) :
    run P n f as S = run P n f (as ++ (fi.dfl.drop (fi.dfl.length - (fi.np - as.length))).map fun d => (false, d)) S ∧ (as ++ (fi.dfl.drop (fi.dfl.length - (fi.np - as.length))).map fun d => ((false, d) : Bool × D)).length = fi.np := by
  have e : (as ++ (fi.dfl.drop (fi.dfl.length - (fi.np - as.length))).map fun d => ((false, d) : Bool × D)).length = fi.np := by
    simp only [List.length_append, List.length_map, List.length_drop]
    omega
  refine ⟨?_, e⟩
  cases n with
  | zero => rfl
  | succ n =>
    unfold run
    simp only [hf, e, Nat.sub_self, Nat.sub_zero, List.drop_length, List.map_nil, List.append_nil]
end
end Z

namespace Z
open PySem L2 PySem.Spec PyProof.Rows
mutual
theorem snapD_noBx {fn : Nat → D} : ∀ {d : D}, d.noBx = true → snapD fn d = d
  | .non, _ => rfl
  | .bl _, _ => rfl
  | .int _, _ => rfl
  | .str _, _ => rfl
  | .tup _, h => by unfold snapD; rw [snapL_noBx h]
  | .lst _, h => by unfold snapD; rw [snapL_noBx h]
  | .dK _ _, h => by unfold snapD; rw [snapL_noBx h]
  | .dT _ _, h => by unfold snapD; rw [snapL_noBx h]
  | .obj _ _ _, h => by unfold snapD; rw [snapL_noBx h]
  | .bx _, h => by cases h
theorem snapL_noBx {fn : Nat → D} : ∀ {ds : List D}, noBxL ds = true → snapL fn ds = ds
  | [], _ => rfl
  | d :: ds, h => by
    obtain ⟨h1, h2⟩ := Bool.and_eq_true_iff.mp h
    unfold snapL
    rw [snapD_noBx h1, snapL_noBx h2]
end
theorem snapF_noBx {S : Sto} {d : D} (h : d.noBx = true) : ∀ n, snapF S n d = d
  | 0 => rfl
  | n + 1 => by unfold snapF; exact snapD_noBx h
section
variable {W : Wr} {ρ : Rho} {G : Hp}
mutual
theorem snapD_rv {fn : Nat → D} (hf : ∀ i v, Rv W ρ G (.bx i) v → Rv W ρ G (fn i) v) : ∀ {d : D} {v : V}, Rv W ρ G d v → Rv W ρ G (snapD fn d) v
  | .non, _, h => h
  | .bl _, _, h => h
  | .int _, _, h => h
  | .str _, _, h => h
  | .tup _, _, ⟨a, vs, h1, h2, h3⟩ => ⟨a, vs, h1, h2, snapL_rv hf h3⟩
  | .lst _, _, ⟨a, vs, h1, h2, h3⟩ => ⟨a, vs, h1, h2, snapL_rv hf h3⟩
  | .dK _ _, _, ⟨a, vs, h1, h2, h4, h3⟩ => ⟨a, vs, h1, h2, h4, snapL_rv hf h3⟩
  | .dT _ _, _, ⟨a, vs, h1, h2, h4, h3⟩ => ⟨a, vs, h1, h2, h4, snapL_rv hf h3⟩
  | .obj _ _ _, _, ⟨a, dx, l, h1, h2, h4, h3⟩ => ⟨a, dx, l, h1, h2, h4, snapL_rv hf h3⟩
  | .bx i, v, h => hf i v h
theorem snapL_rv {fn : Nat → D} (hf : ∀ i v, Rv W ρ G (.bx i) v → Rv W ρ G (fn i) v) : ∀ {ds : List D} {vs : List V}, RvL W ρ G ds vs → RvL W ρ G (snapL fn ds) vs
  | [], _, h => h
  | _ :: _, _, ⟨v, ws, h1, h2, h3⟩ => ⟨v, ws, h1, snapD_rv hf h2, snapL_rv hf h3⟩
end
end
section
variable {W : Wr} {t : Tb} {P : Pg} {F : Fns} {n : Nat} {l : Lc} {wx : WX} {g g' g1 g2 : Gh} {S S' S1 S2 : Sto} {H H' H1 H2 : Hp} {T T1 T2 N : Addr → Prop} {X : Cx} {v u x y : V} {vs : List V} {f f1 f2 fp : List Addr} {Q : VK} {a b r : Vd} {as bs : List Vd} {σ : L2.St} {env : EnvD} {k : Kd} {d : D} {m m1 m2 : Bool}
theorem snapF_rv (R : Rg W g S H) : ∀ (n : Nat) {d : D} {v : V}, Rv W g.r H d v → Rv W g.r H (snapF S n d) v
  | 0, _, _, h => h
  | n + 1, d, v, h => by
    refine snapD_rv (fun i v hv => snapF_rv R n ?_) h
    unfold boxAt
    split
    · rename_i b hb
      obtain ⟨a, h1, h2⟩ := R.box i b hb
      obtain ⟨a', e1, e2⟩ := hv
      rw [h1] at e1; cases e1
      rw [e2]
      exact h2.read (R.G_h _)
    · exact hv
theorem argP_rk (R : Rg W g S H) (h : RK W g S H a v f) (nd : f.Nodup) (fr : ∀ a ∈ f, g.L a = none ∧ ¬ Own g S a) (nb : (argP S a).2.noBx = true) :
    ∃ g', Rg W g' S H ∧ Gr (· ∈ f) g S H g' S H ∧ Rv W (fun _ => none) ((g'.own H).G (argP S a).1) (argP S a).2 v ∧ (∀ a, a ∉ f → g'.L a = g.L a) ∧ g'.fp = g.fp ∧ g'.r = g.r := by
  obtain ⟨k, d⟩ := a
  have nb' : (snapF S 4 d).noBx = true := nb
  have rd : Rv W g.r H (snapF S 4 d) v := snapF_rv R 4 (h.read R)
  by_cases i : (snapF S 4 d).imm = true
  · have e : argP S (k, d) = (false, snapF S 4 d) := by unfold argP; dsimp only; rw [if_pos i]
    rw [e]
    exact ⟨g, R, Gr.refl, Rv.noBx nb' (Rv.imm R.tup i rd), fun _ _ => rfl, rfl, rfl⟩
  · have lent : ∀ {l : Bool}, l = true → Rv W (fun _ => none) ((g.own H).G l) (snapF S 4 d) v := fun {l} e => by
      subst e
      exact Rv.noBx nb' rd
    cases k with
    | vl l =>
      have e : argP S (.vl l, d) = (if d.noBx then l else true, snapF S 4 d) := by unfold argP; dsimp only; rw [if_neg i]
      rw [e]
      by_cases q : d.noBx = true
      · rw [if_pos q]
        refine ⟨g, R, Gr.refl, ?_, fun _ _ => rfl, rfl, rfl⟩
        rw [snapF_noBx q]
        cases l with
        | true => exact Rv.noBx q (h.read R)
        | false => exact Rv.noBx q h.2
      · rw [if_neg q]
        exact ⟨g, R, Gr.refl, lent rfl, fun _ _ => rfl, rfl, rfl⟩
    | fr j l =>
      have e : argP S (.fr j l, d) = (if d.noBx then l else true, snapF S 4 d) := by unfold argP; dsimp only; rw [if_neg i]
      rw [e]
      by_cases q : d.noBx = true
      · rw [if_pos q, snapF_noBx q]
        obtain ⟨g', f', s, R', gr, h', o1, o2, o3, o4⟩ := R.wk (j := 0) (m := l) h nd fr (Nat.zero_le _) (by cases l <;> rfl)
        refine ⟨g', R', gr, ?_, o1, o3, o4⟩
        have rv := (Rt.freeze0 h').2
        cases l with
        | true => exact Rv.noBx q (Rv.mono (R'.G_h true) (fun _ _ z => z) rv)
        | false => exact Rv.noBx q rv
      · rw [if_neg q]
        exact ⟨g, R, Gr.refl, lent rfl, fun _ _ => rfl, rfl, rfl⟩
    | tn n p =>
      have e : argP S (.tn n p, d) = (true, snapF S 4 d) := by unfold argP; dsimp only; rw [if_neg i]
      rw [e]
      exact ⟨g, R, Gr.refl, lent rfl, fun _ _ => rfl, rfl, rfl⟩
theorem argsP_rk : ∀ {as : List Vd} {g : Gh} {vs : List V} {f : List Addr}, Rg W g S H → RKs W g S H as vs f → f.Nodup → (∀ a ∈ f, g.L a = none ∧ ¬ Own g S a) → (as.map (argP S)).all (fun a => a.2.noBx) = true →
    ∃ g', Rg W g' S H ∧ Gr (· ∈ f) g S H g' S H ∧ ArgsR W (g'.own H) (as.map (argP S)) vs ∧ g'.fp = g.fp ∧ g'.r = g.r
  | [], g, _, _, R, ⟨h1, h2⟩, _, _, e => ⟨g, R, Gr.refl, h1, rfl, rfl⟩
  | a :: as, g, _, _, R, ⟨v, ws, f1, f2, h1, h2, h3, h4⟩, nd, fr, e => by
    subst h1 h2
    obtain ⟨e1, e2⟩ := Bool.and_eq_true_iff.mp (show ((argP S a).2.noBx && (as.map (argP S)).all (fun a => a.2.noBx)) = true from e)
    obtain ⟨n1, n2, n3⟩ := List.nodup_append.mp nd
    obtain ⟨g1, R1, gr1, rv1, o1, o3, o4⟩ := argP_rk R h3 n1 (fun a ha => fr a (List.mem_append_left _ ha)) e1
    have own1 : ∀ a, Own g1 S a → Own g S a := fun a ⟨n, b, l, ha⟩ => ⟨n, b, l, by rw [← o3]; exact ha⟩
    obtain ⟨g2, R2, gr2, ar2, p3, p4⟩ := argsP_rk R1 (RKs.keepP (Ex.refl H) gr1 h4) n2 (fun a ha => ⟨by rw [o1 a fun z => n3 a z a ha rfl]; exact (fr a (List.mem_append_right _ ha)).1, fun z => (fr a (List.mem_append_right _ ha)).2 (own1 a z)⟩) e2
    have ge : ∀ lb : Bool, Ex ((g1.own H).G lb) ((g2.own H).G lb) := fun lb => by
      cases lb
      · exact gr2.f
      · exact Ex.refl H
    exact ⟨g2, R2, (gr1.trans gr2).imp fun a ha => .inr (.inr (List.mem_append.mpr ha)), ⟨v, ws, rfl, Rv.mono (ge _) (fun _ _ z => z) rv1, ar2⟩, p3.trans o3, p4.trans o4⟩
mutual
theorem Rt.noBx {ρ ρ' : Rho} {G : Hp} : ∀ {d : D} {k : Nat} {v : V} {fp : List Addr}, d.noBx = true → Rt W ρ G H d k v fp → Rt W ρ' G H d k v fp
  | .non, _, _, _, _, h => h
  | .bl _, _, _, _, _, h => h
  | .int _, _, _, _, _, h => h
  | .str _, _, _, _, _, h => h
  | .tup _, 0, _, _, i, ⟨h1, h⟩ => ⟨h1, Rv.noBx i h⟩
  | .tup _, k + 1, _, _, i, ⟨a, vs, h1, h2, h3⟩ => ⟨a, vs, h1, h2, RtL.noBx i h3⟩
  | .lst _, 0, _, _, i, ⟨h1, h⟩ => ⟨h1, Rv.noBx i h⟩
  | .lst _, k + 1, _, _, i, ⟨a, vs, g, h1, h2, h3, h4⟩ => ⟨a, vs, g, h1, h2, h3, RtL.noBx i h4⟩
  | .dK _ _, 0, _, _, i, ⟨h1, h⟩ => ⟨h1, Rv.noBx i h⟩
  | .dK _ _, k + 1, _, _, i, ⟨a, vs, g, h1, h2, h3, h5, h4⟩ => ⟨a, vs, g, h1, h2, h3, h5, RtL.noBx i h4⟩
  | .dT _ _, 0, _, _, i, ⟨h1, h⟩ => ⟨h1, Rv.noBx i h⟩
  | .dT _ _, k + 1, _, _, i, ⟨a, vs, g, h1, h2, h3, h5, h4⟩ => ⟨a, vs, g, h1, h2, h3, h5, RtL.noBx i h4⟩
  | .obj _ _ _, 0, _, _, i, ⟨h1, h⟩ => ⟨h1, Rv.noBx i h⟩
  | .obj _ _ _, k + 1, _, _, i, ⟨a, dx, l, g, h1, h2, h3, h5, h4⟩ => ⟨a, dx, l, g, h1, h2, h3, h5, RtL.noBx i h4⟩
  | .bx _, _, _, _, i, _ => by cases i
theorem RtL.noBx {ρ ρ' : Rho} {G : Hp} : ∀ {ds : List D} {k : Nat} {vs : List V} {fp : List Addr}, noBxL ds = true → RtL W ρ G H ds k vs fp → RtL W ρ' G H ds k vs fp
  | [], _, _, _, _, h => h
  | _ :: _, _, _, _, i, ⟨v, ws, f1, f2, h1, h2, h3, h4⟩ => by
    obtain ⟨i1, i2⟩ := Bool.and_eq_true_iff.mp i
    exact ⟨v, ws, f1, f2, h1, h2, Rt.noBx i1 h3, RtL.noBx i2 h4⟩
end
/-- a call in the same region -/
theorem callI_sp {fn np : Nat} {call : List (Bool × D) → Sto → R (Kd × D × Sto)} {xs : List (Bool × D)} (hl : vs.length = np) (gr : Gr T0 g S H g1 S1 H1) (R : Rg W g1 S1 H1) (fr : Fre g1 S1 (fun a => H a = none ∨ OwnU g S a) f)
    (gr2 : Gr (· ∈ f) g1 S1 H1 g2 S1 H1) (R2 : Rg W g2 S1 H1) (ar : ArgsR W g2 xs vs)
    (h : EvP W wx σ g S H ((call xs S1).bind fun (k, d, S') => match asVal (k, d) with | some _ => .ok (k, d, S', true) | none => .stuck) Q) : spZ W call np vs H1 Q (WE wx σ) := by
  have G2 : Gr T0 g S H g2 S1 H1 := gr.trans1 fr gr2
  refine ⟨hl, g2, S1, xs, R2, ar, ?_⟩
  cases e : call xs S1 with
  | stuck => rw [e] at h; exact h
  | exc c S' => rw [e] at h; exact ExcOk.from G2 h
  | ok a =>
    obtain ⟨k, d, S'⟩ := a
    rw [e] at h
    have h' : EvP W wx σ g S H (match asVal (k, d) with | some _ => .ok (k, d, S', true) | none => .stuck) Q := h
    cases q : asVal (k, d) with
    | none => rw [q] at h'; exact h'.elim
    | some l =>
      rw [q] at h'
      exact fun g' H' v fp R' gr' rk fr' => h' g' H' v fp R' (G2.trans0 gr') (fun z => by cases z) rk (fr'.imp fun a _ z => new_back G2 z)
/-- a call in a region of its own -/
theorem callP_sp {np : Nat} {call : List (Bool × D) → Sto → R (Kd × D × Sto)} {xs : List (Bool × D)} (hl : vs.length = np) (gr : Gr T0 g S H g1 S1 H1) (hm : m = false → S1 = S ∧ Ex H H1) (R : Rg W g1 S1 H1) (fr : Fre g1 S1 (fun a => H a = none ∨ OwnU g S a) f)
    (gr2 : Gr (· ∈ f) g1 S1 H1 g2 S1 H1) (R2 : Rg W g2 S1 H1) (ar : ArgsR W (g2.own H1) xs vs)
    (h : EvP W wx σ g S H (match call xs [] with
      | .ok r => (outP r).bind fun (k, d) => .ok (k, d, S1, m)
      | .exc c _ => .exc c S1
      | .stuck => .stuck) Q) : spZ W call np vs H1 Q (WE wx σ) := by
  have G2 : Gr T0 g S H g2 S1 H1 := gr.trans1 fr gr2
  refine ⟨hl, g2.own H1, [], xs, R2.own, ar, ?_⟩
  cases e : call xs [] with
  | stuck => rw [e] at h; exact h
  | exc c S' =>
    rw [e] at h
    intro g' H' R' gr'
    obtain ⟨R3, gr3, ex, _⟩ := R2.back R' gr'
    exact h _ _ R3 (G2.trans0 gr3)
  | ok a =>
    obtain ⟨k, d, S'⟩ := a
    rw [e] at h
    intro g' H' v fp R' gr' rk fr'
    obtain ⟨R3, gr3, ex, exL⟩ := R2.back R' gr'
    have fresh : ∀ a ∈ fp, H1 a = none := fun a ha => by
      rcases (fr'.fr a ha).2.2 with q | ⟨n, b, q, _⟩
      · exact q
      · simp [Live] at q
    have fre : Fre (g2.back g') S1 (fun a => H a = none ∨ OwnU g S a) fp := by
      refine ⟨fr'.nd, fun a ha => ⟨?_, fun ⟨n, b, q, hq⟩ => ?_, new_back G2 (.inl (fresh a ha))⟩⟩
      · cases q : (g2.back g').L a with
        | none => rfl
        | some o => have z := (fr'.fr a ha).1; rw [exL a o q] at z; cases z
      · obtain ⟨o, ho⟩ := R2.box_there q a hq
        rw [fresh a ha] at ho; cases ho
    have fin : ∀ {k2 : Kd} {fp2 : List Addr}, fp2.Sublist fp → RK W (g2.back g') S1 H' (k2, d) v fp2 → EvP W wx σ g S H (.ok (k2, d, S1, m)) Q → Q v H' := fun {k2 fp2} s rk2 h2 =>
      h2 _ _ v fp2 R3 (G2.trans0 gr3) (fun z => ⟨(hm z).1, (hm z).2.trans ex⟩) rk2 (fre.sub s)
    have h' : EvP W wx σ g S H ((if d.noBx then (if d.imm then .ok (.vl false, d) else match (generalizing := false) k with
      | .vl false => .ok (.vl false, d)
      | .fr j false => .ok (.fr j false, d)
      | _ => .stuck) else .stuck : Z.R (Kd × D)).bind fun (k, d) => .ok (k, d, S1, m)) Q := h
    by_cases nb : d.noBx = true
    · rw [if_pos nb] at h'
      by_cases i : d.imm = true
      · rw [if_pos i] at h'
        exact fin (k2 := .vl false) (List.nil_sublist _) ⟨rfl, Rv.noBx nb (rk.imm R' i).2⟩ h'
      · rw [if_neg i] at h'
        cases k with
        | vl lb => cases lb with
          | true => exact h'.elim
          | false => exact fin (k2 := .vl false) (List.nil_sublist _) ⟨rfl, Rv.noBx nb rk.2⟩ h'
        | fr j lb => cases lb with
          | true => exact h'.elim
          | false => exact fin (k2 := .fr j false) (List.Sublist.refl _) (show Rt W (g2.back g').r g'.F H' d j v fp from Rt.noBx nb rk) h'
        | tn _ _ => exact h'.elim
    · rw [if_neg nb] at h'; exact h'.elim
end
end Z

namespace Z
open PySem L2 PySem.Spec PyProof.Rows
section
variable {W : Wr} {t : Tb} {P : Pg} {F : Fns} {l : Lc} {wx : WX} {g g' g0 g1 g2 : Gh} {S S' S1 S2 : Sto} {H H' H0 H1 H2 : Hp} {T T1 T2 N : Addr → Prop} {X : Cx} {v u x y : V} {vs : List V} {f f1 f2 fp : List Addr} {Q : VK} {a b r : Vd} {as bs : List Vd} {σ : L2.St} {env : EnvD} {k : Kd} {d : D} {m m1 m2 : Bool}
theorem der_tn {n : Nat} {p : List Nat} {d' : D} (e : der S a = some (.tn n p, d')) : (a = (.tn n p, d') ∧ (∀ i, d' ≠ .bx i ∨ True)) ∨ (p = [] ∧ a.2 = .bx n ∧ ∃ b, Live S n b ∧ d' = b.d) := by
  obtain ⟨k, d⟩ := a
  cases d <;> first
    | (have e' : some (k, _) = some ((.tn n p, d') : Vd) := e; cases e'; exact .inl ⟨rfl, fun _ => .inr trivial⟩)
    | skip
  rename_i i
  have e' : (match S[i]? with
    | some (some b) => some ((.tn i [], b.d) : Vd)
    | _ => none) = some (.tn n p, d') := e
  cases q : S[i]? with
  | none => rw [q] at e'; cases e'
  | some o => cases o with
    | none => rw [q] at e'; cases e'
    | some bx =>
      rw [q] at e'; cases e'
      exact .inr ⟨rfl, rfl, bx, q, rfl⟩
theorem place_some {n : Nat} {p : List Nat} {b : Bx} {x : D} (e : place S a = some (n, p, b, x)) : ∃ d', der S a = some (.tn n p, d') ∧ Live S n b ∧ b.lk = false ∧ p.length < b.dp ∧ pathGet b.d p = some x := by
  obtain ⟨k, d⟩ := a
  unfold place at e
  dsimp only at e
  split at e
  · rename_i n' p' d' hd
    split at e
    · rename_i b' hb
      by_cases q : b'.lk = true
      · rw [if_pos q] at e; cases e
      · rw [if_neg q] at e
        by_cases q2 : p'.length < b'.dp
        · rw [if_pos q2] at e
          obtain ⟨x', e1, e2⟩ := Option.map_eq_some_iff.mp e
          cases e2
          exact ⟨d', hd, hb, by simpa using q, q2, e1⟩
        · rw [if_neg q2] at e; cases e
    · cases e
  · cases e
/-- where a receiver stands, behind its arguments -/
theorem place_rk {n : Nat} {p : List Nat} {b : Bx} {x : D} (R0 : Rg W g0 S H0) (R : Rg W g1 S1 H1) (gr : Gr T0 g0 S H0 g1 S1 H1) (rk : RK W g0 S H0 a v f) (hp : p = [] ∨ (S1 = S ∧ Ex H0 H1)) (e : place S1 a = some (n, p, b, x)) :
    ∃ c k', Live S1 n b ∧ b.lk = false ∧ g1.r n = some c ∧ Pt W (g1.G b.ln) H1 p b.d b.dp (.ref c) x (k' + 1) v ∧ b.dp = k' + 1 + p.length := by
  obtain ⟨d', e1, e2, e3, e4, e5⟩ := place_some e
  have fin : ∀ {c : Addr} {k0 : Nat} {y : D}, g1.r n = some c → Pt W (g1.G b.ln) H1 p b.d b.dp (.ref c) y k0 v → ∃ c k', Live S1 n b ∧ b.lk = false ∧ g1.r n = some c ∧ Pt W (g1.G b.ln) H1 p b.d b.dp (.ref c) x (k' + 1) v ∧ b.dp = k' + 1 + p.length := fun {c k0 y} h1 h2 => by
    have hl := h2.len
    have hg := h2.get
    rw [e5] at hg; cases hg
    obtain ⟨k1, rfl⟩ : ∃ k1, k0 = k1 + 1 := ⟨k0 - 1, by omega⟩
    exact ⟨c, k1, e2, e3, h1, h2, hl⟩
  have base : ∀ {c : Addr}, p = [] → g0.r n = some c → v = .ref c → ∃ c k', Live S1 n b ∧ b.lk = false ∧ g1.r n = some c ∧ Pt W (g1.G b.ln) H1 p b.d b.dp (.ref c) x (k' + 1) v ∧ b.dp = k' + 1 + p.length := fun {c} h0 h1 h2 => by
    subst h0
    exact fin (k0 := b.dp) (y := b.d) (gr.r n c h1) ⟨rfl, rfl, h2.symm⟩
  rcases der_tn e1 with ⟨q, _⟩ | ⟨q1, q2, _⟩
  · subst q
    obtain ⟨_, b0, c, k0, h1, h2, h3⟩ := rk
    rcases hp with hp | ⟨hs, hx⟩
    · subst hp
      obtain ⟨_, _, h6⟩ := h3
      exact base rfl h2 h6.symm
    · subst hs
      obtain rfl := Live.fun e2 h1
      exact fin (gr.r n c h2) (Pt.mono (Gh.G_ex gr _) hx h3)
  · obtain ⟨k, d⟩ := a
    have q2' : d = .bx n := q2
    subst q2'
    obtain ⟨c, h1, h2⟩ : Rv W g0.r H0 (.bx n) v := rk.read R0
    exact base q1 h1 h2
/-- the cell at a path is written -/
theorem Rg.change (R : Rg W g S H) {n : Nat} {p : List Nat} {b : Bx} {x : D} {c a : Addr} {k : Nat} (lv : Live S n b) (hk : b.lk = false) (hr : g.r n = some a) (pt : Pt W (g.G b.ln) H p b.d b.dp (.ref a) x (k + 1) (.ref c)) :
    ∃ f0, f0.Sublist (g.fp n) ∧ f0.Nodup ∧ Rt W g.r (g.G b.ln) H x (k + 1) (.ref c) f0 ∧
      ∀ {o : HO} {x' : D} {f' t : List Addr}, NoTup o → c ∈ f0 → Rt W g.r (g.G b.ln) (upd H c o) x' (k + 1) (.ref c) f' → f'.Nodup → (∀ z ∈ f', z ∈ f0 ∨ z ∈ t) → (∀ z ∈ t, g.L z = none ∧ ¬ Own g S z) →
        ∃ g', Rg W g' (setB S n (pathSet b.d p x')) (upd H c o) ∧ Gr (· ∈ t) g S H g' (setB S n (pathSet b.d p x')) (upd H c o) ∧ g'.F = g.F ∧ g'.L = g.L ∧ g'.r = g.r ∧
          (∀ z, z ∈ f0 → z ∉ f' → ¬ Own g' (setB S n (pathSet b.d p x')) z) ∧ (∀ z, ¬ Own g S z → z ∉ f' → ¬ Own g' (setB S n (pathSet b.d p x')) z) := by
  obtain ⟨a', e1, rt⟩ := R.box n b lv
  rw [hr] at e1; cases e1
  obtain ⟨pre, f0, post, e2, rt0, re⟩ := rt.focus pt
  have nd := R.nd n b lv
  rw [e2] at nd
  obtain ⟨nd1, ndp, ndx⟩ := List.nodup_append.mp nd
  obtain ⟨ndr, nd0, ndy⟩ := List.nodup_append.mp nd1
  have sub0 : ∀ z ∈ f0, z ∈ g.fp n := fun z hz => by rw [e2]; simp [hz]
  refine ⟨f0, by rw [e2]; exact (List.sublist_append_right _ _).trans (List.sublist_append_left _ _), nd0, rt0, fun {o x' f' t} nt hc rt' nd' fr ft => ?_⟩
  have cno : ∀ z ∈ pre ++ post, z ≠ c := fun z hz e => by
    subst e
    rcases List.mem_append.mp hz with q | q
    · exact ndy z q z hc rfl
    · exact ndx z (List.mem_append_right _ hc) z q rfl
  have kp : ∀ z o', H z = some o' → z ≠ c → upd H c o z = some o' := fun z o' h ne => by rw [upd_ne ne]; exact h
  have whole := re (H' := upd H c o) (Ex.refl _) (fun _ _ z => z) (fun z hz o' h => kp z o' h (cno z hz)) rt'
  have tup : TupIn g.F (upd H c o) := fun z xs e => by
    by_cases q : z = c
    · subst q; rw [upd_same] at e; cases e; exact nt.elim
    · rw [upd_ne q] at e; exact R.tup z xs e
  have fr2 : ∀ z ∈ pre ++ f' ++ post, z ∈ g.fp n ∨ z ∈ t := fun z hz => by
    rcases List.mem_append.mp hz with q | q
    · rcases List.mem_append.mp q with q | q
      · exact .inl (by rw [e2]; simp [q])
      · rcases fr z q with w | w
        · exact .inl (sub0 z w)
        · exact .inr w
    · exact .inl (by rw [e2]; simp [q])
  have dis : ∀ z ∈ f', z ∉ pre ∧ z ∉ post := fun z hz => by
    rcases fr z hz with w | w
    · exact ⟨fun q => ndy z q z w rfl, fun q => ndx z (List.mem_append_right _ w) z q rfl⟩
    · exact ⟨fun q => (ft z w).2 ⟨n, b, lv, by rw [e2]; simp [q]⟩, fun q => (ft z w).2 ⟨n, b, lv, by rw [e2]; simp [q]⟩⟩
  have nd2 : (pre ++ f' ++ post).Nodup := by
    refine List.nodup_append.mpr ⟨List.nodup_append.mpr ⟨ndr, nd', fun z hz w hw e => (dis w hw).1 (e ▸ hz)⟩, ndp, fun z hz w hw e => ?_⟩
    subst e
    rcases List.mem_append.mp hz with q | q
    · exact ndx z (List.mem_append_left _ q) z hw rfl
    · exact (dis z q).2 hw
  have es : setB S n (pathSet b.d p x') = S.set n (some { b with d := pathSet b.d p x' }) := by
    unfold setB
    rw [show S[n]? = some (some b) from lv]
  obtain ⟨R2, gr2⟩ := R.boxSet (H' := upd H c o) (d' := pathSet b.d p x') (t := t) lv hk hr (fun z o' h hz => kp z o' h fun e => hz (by rw [e]; exact sub0 c hc)) tup whole nd2 fr2 ft
  rw [← es] at R2 gr2
  have own2 : ∀ z, Own (g.put n (pre ++ f' ++ post)) (setB S n (pathSet b.d p x')) z → z ∈ pre ++ f' ++ post ∨ ∃ m e, m ≠ n ∧ Live S m e ∧ z ∈ g.fp m := fun z ⟨m, e, q, hz⟩ => by
    rw [es] at q
    rcases (live_set lv.lt).mp q with ⟨w1, w2⟩ | ⟨w1, w2⟩
    · left
      rw [w1] at hz
      have : (g.put n (pre ++ f' ++ post)).fp n = pre ++ f' ++ post := if_pos rfl
      rw [this] at hz
      exact hz
    · right
      have : (g.put n (pre ++ f' ++ post)).fp m = g.fp m := if_neg w1
      rw [this] at hz
      exact ⟨m, e, w1, w2, hz⟩
  refine ⟨g.put n (pre ++ f' ++ post), R2, gr2, rfl, rfl, rfl, fun z hz nz ow => ?_, fun z no nz ow => ?_⟩
  · rcases own2 z ow with q | ⟨m, e, ne, lm, hm⟩
    · rcases List.mem_append.mp q with q | q
      · rcases List.mem_append.mp q with q | q
        · exact ndy z q z hz rfl
        · exact nz q
      · exact ndx z (List.mem_append_right _ hz) z q rfl
    · exact R.dis m n e b lm lv ne z hm (sub0 z hz)
  · rcases own2 z ow with q | ⟨m, e, ne, lm, hm⟩
    · rcases List.mem_append.mp q with q | q
      · rcases List.mem_append.mp q with q | q
        · exact no ⟨n, b, lv, by rw [e2]; simp [q]⟩
        · exact nz q
      · exact no ⟨n, b, lv, by rw [e2]; simp [q]⟩
    · exact no ⟨m, e, lm, hm⟩
end
end Z

namespace Z
open PySem L2 PySem.Spec PyProof.Rows
section
variable {W : Wr} {g g' g0 g1 g2 : Gh} {S S' S1 S2 : Sto} {H H' H0 H1 H2 : Hp} {T T1 T2 N : Addr → Prop} {X : Cx} {v u x y : V} {vs : List V} {f f1 f2 fp : List Addr} {Q : VK} {a b r : Vd} {as bs : List Vd} {d : D}
/-- xs' stands in xs's place in the box -/
structure Chg (W : Wr) (g : Gh) (S : Sto) (H : Hp) (n : Nat) (S' : Sto) (H' : Hp) (t f0 f' : List Addr) (g' : Gh) : Prop where
  R : Rg W g' S' H'
  gr : Gr (· ∈ t) g S H g' S' H'
  F : g'.F = g.F
  L : g'.L = g.L
  r : g'.r = g.r
  own : ∀ z, z ∈ f0 → z ∉ f' → ¬ Own g' S' z
  no : ∀ z, ¬ Own g S z → z ∉ f' → ¬ Own g' S' z
theorem lst_change (R : Rg W g S H) {n : Nat} {p : List Nat} {b : Bx} {xs : List D} {c a : Addr} {k : Nat} (lv : Live S n b) (hk : b.lk = false) (hr : g.r n = some a) (pt : Pt W (g.G b.ln) H p b.d b.dp (.ref a) (.lst xs) (k + 1) v) :
    ∃ c vs f0, v = .ref c ∧ H c = some (.lst vs) ∧ RtL W g.r (g.G b.ln) H xs k vs f0 ∧ f0.Nodup ∧ (∀ z ∈ f0, z ∈ g.fp n ∧ z ≠ c) ∧
      ∀ {xs' : List D} {vs' : List V} {f' t : List Addr}, RtL W g.r (g.G b.ln) H xs' k vs' f' → f'.Nodup → (∀ z ∈ f', z ∈ f0 ∨ z ∈ t) → (∀ z ∈ t, g.L z = none ∧ ¬ Own g S z) →
        ∃ g', Chg W g S H n (setB S n (pathSet b.d p (.lst xs'))) (upd H c (.lst vs')) t f0 f' g' := by
  obtain ⟨a', e1, rt⟩ := R.box n b lv
  rw [hr] at e1; cases e1
  obtain ⟨_, _, _, _, rt0, _⟩ := rt.focus pt
  obtain ⟨c, vs, f00, w1, w2, w3, w4⟩ := rt0
  subst w1
  obtain ⟨f0, s1, s2, s3, ch⟩ := R.change lv hk hr pt
  obtain ⟨c', us, g0, q1, q2, q3, q4⟩ := s3
  cases q1
  rw [w3] at q3; cases q3
  subst q2
  obtain ⟨ncf, nd⟩ := List.nodup_cons.mp s2
  have co : c ∈ g.fp n := s1.subset (List.mem_cons_self)
  refine ⟨c, vs, g0, rfl, w3, q4, nd, fun z hz => ⟨s1.subset (List.mem_cons_of_mem _ hz), fun e => ncf (e ▸ hz)⟩, fun {xs' vs' f' t} rl nd' fr ft => ?_⟩
  have nc : c ∉ f' := fun z => by
    rcases fr c z with q | q
    · exact ncf q
    · exact (ft c q).2 ⟨n, b, lv, co⟩
  obtain ⟨g', R', gr', e1, e2, e3, e4, e5⟩ := ch (o := .lst vs') (x' := .lst xs') (f' := c :: f') (t := t) trivial List.mem_cons_self ⟨c, vs', f', rfl, rfl, upd_same, RtL.mono (Ex.refl _) (fun _ _ z => z) (fun z hz o h => by have e : z ≠ c := (fun e => nc (e ▸ hz)); rw [upd_ne e]; exact h) rl⟩
    (List.nodup_cons.mpr ⟨nc, nd'⟩) (fun z hz => by
      rcases List.mem_cons.mp hz with q | q
      · exact .inl (q ▸ List.mem_cons_self)
      · exact (fr z q).imp (List.mem_cons_of_mem _) id) ft
  refine ⟨g', R', gr', e1, e2, e3, fun z hz nz => e4 z (List.mem_cons_of_mem _ hz) fun q => ?_, fun z no nz => e5 z no fun q => ?_⟩
  · rcases List.mem_cons.mp q with q | q
    · exact ncf (q ▸ hz)
    · exact nz q
  · rcases List.mem_cons.mp q with q | q
    · exact no ⟨n, b, lv, q ▸ co⟩
    · exact nz q
theorem dK_change (R : Rg W g S H) {n : Nat} {p : List Nat} {b : Bx} {ks : List Key} {xs : List D} {c a : Addr} {k : Nat} (lv : Live S n b) (hk : b.lk = false) (hr : g.r n = some a) (pt : Pt W (g.G b.ln) H p b.d b.dp (.ref a) (.dK ks xs) (k + 1) v) :
    ∃ c kvs f0, v = .ref c ∧ H c = some (.dK kvs) ∧ kvs.map (·.1) = ks ∧ RtL W g.r (g.G b.ln) H xs k (kvs.map (·.2)) f0 ∧ f0.Nodup ∧ (∀ z ∈ f0, z ∈ g.fp n ∧ z ≠ c) ∧
      ∀ {ks' : List Key} {xs' : List D} {kvs' : List (Key × V)} {f' t : List Addr}, kvs'.map (·.1) = ks' → RtL W g.r (g.G b.ln) H xs' k (kvs'.map (·.2)) f' → f'.Nodup → (∀ z ∈ f', z ∈ f0 ∨ z ∈ t) → (∀ z ∈ t, g.L z = none ∧ ¬ Own g S z) →
        ∃ g', Chg W g S H n (setB S n (pathSet b.d p (.dK ks' xs'))) (upd H c (.dK kvs')) t f0 f' g' := by
  obtain ⟨a', e1, rt⟩ := R.box n b lv
  rw [hr] at e1; cases e1
  obtain ⟨_, _, _, _, rt0, _⟩ := rt.focus pt
  obtain ⟨c, kvs, f00, w1, w2, w3, w5, w4⟩ := rt0
  subst w1
  obtain ⟨f0, s1, s2, s3, ch⟩ := R.change lv hk hr pt
  obtain ⟨c', us, g0, q1, q2, q3, q5, q4⟩ := s3
  cases q1
  rw [w3] at q3; cases q3
  subst q2
  obtain ⟨ncf, nd⟩ := List.nodup_cons.mp s2
  have co : c ∈ g.fp n := s1.subset (List.mem_cons_self)
  refine ⟨c, kvs, g0, rfl, w3, w5, q4, nd, fun z hz => ⟨s1.subset (List.mem_cons_of_mem _ hz), fun e => ncf (e ▸ hz)⟩, fun {ks' xs' vs' f' t} ke rl nd' fr ft => ?_⟩
  have nc : c ∉ f' := fun z => by
    rcases fr c z with q | q
    · exact ncf q
    · exact (ft c q).2 ⟨n, b, lv, co⟩
  obtain ⟨g', R', gr', e1, e2, e3, e4, e5⟩ := ch (o := .dK vs') (x' := .dK ks' xs') (f' := c :: f') (t := t) trivial List.mem_cons_self ⟨c, vs', f', rfl, rfl, upd_same, ke, RtL.mono (Ex.refl _) (fun _ _ z => z) (fun z hz o h => by have e : z ≠ c := (fun e => nc (e ▸ hz)); rw [upd_ne e]; exact h) rl⟩
    (List.nodup_cons.mpr ⟨nc, nd'⟩) (fun z hz => by
      rcases List.mem_cons.mp hz with q | q
      · exact .inl (q ▸ List.mem_cons_self)
      · exact (fr z q).imp (List.mem_cons_of_mem _) id) ft
  refine ⟨g', R', gr', e1, e2, e3, fun z hz nz => e4 z (List.mem_cons_of_mem _ hz) fun q => ?_, fun z no nz => e5 z no fun q => ?_⟩
  · rcases List.mem_cons.mp q with q | q
    · exact ncf (q ▸ hz)
    · exact nz q
  · rcases List.mem_cons.mp q with q | q
    · exact no ⟨n, b, lv, q ▸ co⟩
    · exact nz q
theorem dT_change (R : Rg W g S H) {n : Nat} {p : List Nat} {b : Bx} {ks : List (List Key)} {xs : List D} {c a : Addr} {k : Nat} (lv : Live S n b) (hk : b.lk = false) (hr : g.r n = some a) (pt : Pt W (g.G b.ln) H p b.d b.dp (.ref a) (.dT ks xs) (k + 1) v) :
    ∃ c kvs f0, v = .ref c ∧ H c = some (.dT kvs) ∧ kvs.map (·.1) = ks ∧ RtL W g.r (g.G b.ln) H xs k (kvs.map (·.2)) f0 ∧ f0.Nodup ∧ (∀ z ∈ f0, z ∈ g.fp n ∧ z ≠ c) ∧
      ∀ {ks' : List (List Key)} {xs' : List D} {kvs' : List (List Key × V)} {f' t : List Addr}, kvs'.map (·.1) = ks' → RtL W g.r (g.G b.ln) H xs' k (kvs'.map (·.2)) f' → f'.Nodup → (∀ z ∈ f', z ∈ f0 ∨ z ∈ t) → (∀ z ∈ t, g.L z = none ∧ ¬ Own g S z) →
        ∃ g', Chg W g S H n (setB S n (pathSet b.d p (.dT ks' xs'))) (upd H c (.dT kvs')) t f0 f' g' := by
  obtain ⟨a', e1, rt⟩ := R.box n b lv
  rw [hr] at e1; cases e1
  obtain ⟨_, _, _, _, rt0, _⟩ := rt.focus pt
  obtain ⟨c, kvs, f00, w1, w2, w3, w5, w4⟩ := rt0
  subst w1
  obtain ⟨f0, s1, s2, s3, ch⟩ := R.change lv hk hr pt
  obtain ⟨c', us, g0, q1, q2, q3, q5, q4⟩ := s3
  cases q1
  rw [w3] at q3; cases q3
  subst q2
  obtain ⟨ncf, nd⟩ := List.nodup_cons.mp s2
  have co : c ∈ g.fp n := s1.subset (List.mem_cons_self)
  refine ⟨c, kvs, g0, rfl, w3, w5, q4, nd, fun z hz => ⟨s1.subset (List.mem_cons_of_mem _ hz), fun e => ncf (e ▸ hz)⟩, fun {ks' xs' vs' f' t} ke rl nd' fr ft => ?_⟩
  have nc : c ∉ f' := fun z => by
    rcases fr c z with q | q
    · exact ncf q
    · exact (ft c q).2 ⟨n, b, lv, co⟩
  obtain ⟨g', R', gr', e1, e2, e3, e4, e5⟩ := ch (o := .dT vs') (x' := .dT ks' xs') (f' := c :: f') (t := t) trivial List.mem_cons_self ⟨c, vs', f', rfl, rfl, upd_same, ke, RtL.mono (Ex.refl _) (fun _ _ z => z) (fun z hz o h => by have e : z ≠ c := (fun e => nc (e ▸ hz)); rw [upd_ne e]; exact h) rl⟩
    (List.nodup_cons.mpr ⟨nc, nd'⟩) (fun z hz => by
      rcases List.mem_cons.mp hz with q | q
      · exact .inl (q ▸ List.mem_cons_self)
      · exact (fr z q).imp (List.mem_cons_of_mem _) id) ft
  refine ⟨g', R', gr', e1, e2, e3, fun z hz nz => e4 z (List.mem_cons_of_mem _ hz) fun q => ?_, fun z no nz => e5 z no fun q => ?_⟩
  · rcases List.mem_cons.mp q with q | q
    · exact ncf (q ▸ hz)
    · exact nz q
  · rcases List.mem_cons.mp q with q | q
    · exact no ⟨n, b, lv, q ▸ co⟩
    · exact nz q
theorem obj_change (R : Rg W g S H) {n : Nat} {p : List Nat} {b : Bx} {cl : Nat} {fs : List Str} {xs : List D} {c a : Addr} {k : Nat} (lv : Live S n b) (hk : b.lk = false) (hr : g.r n = some a) (pt : Pt W (g.G b.ln) H p b.d b.dp (.ref a) (.obj cl fs xs) (k + 1) v) :
    ∃ c dx kvs f0, v = .ref c ∧ H c = some (.ins (W.cl cl) dx kvs) ∧ kvs.map (·.1) = fs ∧ RtL W g.r (g.G b.ln) H xs k (kvs.map (·.2)) f0 ∧ f0.Nodup ∧ (∀ z ∈ f0, z ∈ g.fp n ∧ z ≠ c) ∧
      ∀ {fs' : List Str} {xs' : List D} {kvs' : List (Str × V)} {f' t : List Addr}, kvs'.map (·.1) = fs' → RtL W g.r (g.G b.ln) H xs' k (kvs'.map (·.2)) f' → f'.Nodup → (∀ z ∈ f', z ∈ f0 ∨ z ∈ t) → (∀ z ∈ t, g.L z = none ∧ ¬ Own g S z) →
        ∃ g', Chg W g S H n (setB S n (pathSet b.d p (.obj cl fs' xs'))) (upd H c (.ins (W.cl cl) dx kvs')) t f0 f' g' := by
  obtain ⟨a', e1, rt⟩ := R.box n b lv
  rw [hr] at e1; cases e1
  obtain ⟨_, _, _, _, rt0, _⟩ := rt.focus pt
  obtain ⟨c, dx, kvs, f00, w1, w2, w3, w5, w4⟩ := rt0
  subst w1
  obtain ⟨f0, s1, s2, s3, ch⟩ := R.change lv hk hr pt
  obtain ⟨c', dx', us, g0, q1, q2, q3, q5, q4⟩ := s3
  cases q1
  rw [w3] at q3; cases q3
  subst q2
  obtain ⟨ncf, nd⟩ := List.nodup_cons.mp s2
  have co : c ∈ g.fp n := s1.subset (List.mem_cons_self)
  refine ⟨c, dx, kvs, g0, rfl, w3, w5, q4, nd, fun z hz => ⟨s1.subset (List.mem_cons_of_mem _ hz), fun e => ncf (e ▸ hz)⟩, fun {ks' xs' vs' f' t} ke rl nd' fr ft => ?_⟩
  have nc : c ∉ f' := fun z => by
    rcases fr c z with q | q
    · exact ncf q
    · exact (ft c q).2 ⟨n, b, lv, co⟩
  obtain ⟨g', R', gr', e1, e2, e3, e4, e5⟩ := ch (o := .ins (W.cl cl) dx vs') (x' := .obj cl ks' xs') (f' := c :: f') (t := t) trivial List.mem_cons_self ⟨c, dx, vs', f', rfl, rfl, upd_same, ke, RtL.mono (Ex.refl _) (fun _ _ z => z) (fun z hz o h => by have e : z ≠ c := (fun e => nc (e ▸ hz)); rw [upd_ne e]; exact h) rl⟩
    (List.nodup_cons.mpr ⟨nc, nd'⟩) (fun z hz => by
      rcases List.mem_cons.mp hz with q | q
      · exact .inl (q ▸ List.mem_cons_self)
      · exact (fr z q).imp (List.mem_cons_of_mem _) id) ft
  refine ⟨g', R', gr', e1, e2, e3, fun z hz nz => e4 z (List.mem_cons_of_mem _ hz) fun q => ?_, fun z no nz => e5 z no fun q => ?_⟩
  · rcases List.mem_cons.mp q with q | q
    · exact ncf (q ▸ hz)
    · exact nz q
  · rcases List.mem_cons.mp q with q | q
    · exact no ⟨n, b, lv, q ▸ co⟩
    · exact nz q
end
end Z

namespace PySem
open Sem (wp)
open AutoSeq1
theorem list_extendW (l : Addr) (items : Array Value) (n : Nat) (b : Addr) (items2 : Array Value) (n2 : Nat) (sl2 : Array (Option Value)) (hc0 : ¬(!items.isEmpty && Builtin.List.listTooLong (items.size + items2.size)) = true) (hc1 : items.size ≤ sizeLine) (hs2 : items.size + items2.size ≤ sizeLine + 1) :
    Meets (Builtin.«list.extend» ⟨[.ref l, .ref b], []⟩) (fun _ R s => s.heap.get? l = some { cls := .type "list", dict := none, data := .seq items n, slots := #[] } ∧ s.heap.get? b = some { cls := .type "list", dict := none, data := .seq items2 n2, slots := sl2 } ∧ R (.ok (.ret Value.none)) { s with heap := s.heap.update l (Obj.mapSeq fun x => x ++ items2), toks := s.toks }) :=
  .of_wp fun prog w A R s h => by
    obtain ⟨hp, g, d, tk, os⟩ := s; obtain ⟨hl, hb, h⟩ := h; have f1 := idx_int; have f2 := sub_tuple_tuple; have f3 := sub_list_list; have f4 := sub_tuple_list; have f5 := sub_list_tuple;
    have hz' : (items ++ items2).size ≤ sizeLine + 1 := by rw [Array.size_append]; exact hs2
    wp_walk using (wpAny_updateSeq hl rfl (hz := hc1) (_hz' := hz')), wpAny_loadPart' hl, wpAny_loadPart' hb; exact ⟨_, rfl, h⟩
end PySem
namespace Z
open PySem L2 PySem.Spec PyProof.Rows
def PoM (W : Wr) (g : Gh) (S : Sto) (H : Hp) (f : List Addr) (S' : Sto) (r : Vd) (Q : VK) : Prop := ∀ (g' : Gh) (H' : Hp) (v : V) (fp : List Addr), Rg W g' S' H' → Gr (· ∈ f) g S H g' S' H' → RK W g' S' H' r v fp → Fre g' S' (fun z => z ∈ f ∨ H z = none ∨ OwnU g S z) fp → Q v H'
section
variable {W : Wr} {g g' g0 g1 g2 : Gh} {S S' S1 S2 : Sto} {H H' H0 H1 H2 : Hp} {T T1 T2 N : Addr → Prop} {X : Cx} {v u x y : V} {vs : List V} {f f1 f2 fp : List Addr} {Q : VK} {a b r : Vd} {as bs : List Vd} {d : D} {c : Addr}
theorem PoM.non {t : List Addr} (gr : Gr (· ∈ f) g S H g1 S H) {f0 f' : List Addr} {n : Nat} (ch : Chg W g1 S H n S' H' t f0 f' g') (ht : ∀ z ∈ t, z ∈ f) (po : PoM W g S H f S' (.vl false, .non) Q) : Q .non H' :=
  po g' H' .non [] ch.R ((gr.trans ch.gr).imp fun z hz => .inr (.inr (hz.elim id (ht z)))) ⟨rfl, rfl⟩ Fre.nil
/-- what was within is handed out -/
theorem PoM.out {n : Nat} {b : Bx} {f0 f' fx : List Addr} {k : Nat} {x : D} {u : V} (R : Rg W g S H) (lv : Live S n b) (hk : b.lk = false) (ch : Chg W g S H n S' H' [] f0 f' g') (fp0 : ∀ z ∈ f0, z ∈ g.fp n) (nd : fx.Nodup) (sub : ∀ z ∈ fx, z ∈ f0) (off : ∀ z ∈ fx, z ∉ f')
    (rt : Rt W g.r (g.G b.ln) H x k u fx) (kp : ∀ z ∈ fx, ∀ o, H z = some o → H' z = some o) (po : PoM W g S H f S' (norm (if k = 0 then .vl b.ln else .fr k b.ln, x)) Q) : Q u H' := by
  have eG : g'.G b.ln = g.G b.ln := by
    cases b.ln
    · exact ch.F
    · exact ch.L
  have fin : ∀ {kd : Kd} {f1 : List Addr}, f1.Sublist fx → RK W g' S' H' (kd, x) u f1 → PoM W g S H f S' (norm (kd, x)) Q → Q u H' := fun {kd f1} s rk po => by
    obtain ⟨f2, s2, rk2⟩ := rk.norm ch.R
    refine po g' H' u f2 ch.R (ch.gr.imp fun z hz => by cases hz) rk2 ⟨(nd.sublist s).sublist s2, fun z hz => ?_⟩
    have hz' := (s2.trans s).subset hz
    exact ⟨by rw [ch.L]; exact R.off n b lv z (fp0 z (sub z hz')), ch.own z (sub z hz') (off z hz'), .inr (.inr ⟨n, b, lv, hk, fp0 z (sub z hz')⟩)⟩
  cases k with
  | zero =>
    refine fin (kd := .vl b.ln) (List.nil_sublist _) ⟨rfl, ?_⟩ po
    rw [ch.r, eG]
    exact (Rt.freeze0 rt).2
  | succ k =>
    refine fin (kd := .fr (k + 1) b.ln) (List.Sublist.refl _) ?_ po
    show Rt W g'.r (g'.G b.ln) H' x (k + 1) u fx
    rw [ch.r, eG]
    exact Rt.mono (Ex.refl _) (fun _ _ z => z) kp rt
theorem RtL.app {ρ : Rho} {G : Hp} {k : Nat} : ∀ {ds es : List D} {vs us : List V} {f1 f2 : List Addr}, RtL W ρ G H ds k vs f1 → RtL W ρ G H es k us f2 → RtL W ρ G H (ds ++ es) k (vs ++ us) (f1 ++ f2)
  | [], _, _, _, _, _, ⟨h1, h2⟩, h => by subst h1 h2; exact h
  | _ :: _, _, _, _, _, _, ⟨v, ws, f1, f2, h1, h2, h3, h4⟩, h => by
    subst h1 h2
    exact ⟨v, ws ++ _, f1, f2 ++ _, rfl, by simp, h3, RtL.app h4 h⟩
theorem RtL.split {ρ : Rho} {G : Hp} {k : Nat} : ∀ {ds es : List D} {vs : List V} {f : List Addr}, RtL W ρ G H (ds ++ es) k vs f → ∃ vs1 vs2 f1 f2, vs = vs1 ++ vs2 ∧ f = f1 ++ f2 ∧ RtL W ρ G H ds k vs1 f1 ∧ RtL W ρ G H es k vs2 f2
  | [], _, vs, f, h => ⟨[], vs, [], f, rfl, rfl, ⟨rfl, rfl⟩, h⟩
  | _ :: ds, _, _, _, ⟨v, ws, f1, f2, h1, h2, h3, h4⟩ => by
    obtain ⟨w1, w2, e1, e2, q1, q2, q3, q4⟩ := RtL.split (ds := ds) h4
    exact ⟨v :: w1, w2, f1 ++ e1, e2, by rw [h1, q1]; rfl, by rw [h2, q2]; simp, ⟨v, w1, f1, e1, rfl, rfl, h3, q3⟩, q4⟩
theorem RtL.rev {ρ : Rho} {G : Hp} {k : Nat} : ∀ {ds : List D} {vs : List V} {f : List Addr}, RtL W ρ G H ds k vs f → ∃ f', f'.Perm f ∧ RtL W ρ G H ds.reverse k vs.reverse f'
  | [], _, f, ⟨h1, h2⟩ => ⟨[], by rw [h2], by rw [h1]; exact ⟨rfl, rfl⟩⟩
  | d :: ds, _, _, ⟨v, ws, f1, f2, h1, h2, h3, h4⟩ => by
    obtain ⟨f', p, q⟩ := RtL.rev h4
    subst h1 h2
    refine ⟨f' ++ f1, (p.append_right f1).trans List.perm_append_comm, ?_⟩
    rw [List.reverse_cons, List.reverse_cons]
    exact RtL.app q ⟨v, [], f1, [], rfl, by simp, h3, rfl, rfl⟩
theorem RtL.len {ρ : Rho} {G : Hp} {k : Nat} : ∀ {ds : List D} {vs : List V} {f : List Addr}, RtL W ρ G H ds k vs f → vs.length = ds.length
  | [], _, _, ⟨h, _⟩ => by rw [h]; rfl
  | _ :: _, _, _, ⟨v, ws, f1, f2, h1, h2, h3, h4⟩ => by rw [h1, List.length_cons, List.length_cons, RtL.len h4]
/-- + of a list, however the other one stands -/
theorem mt_extendS : MtR X "list.extend" (fun x vs H Q => ∃ l b xs zs, x = .ref l ∧ vs = [.ref b] ∧ H l = some (.lst xs) ∧ SqL X.K H b zs ∧ xs.length + zs.length ≤ sizeLine ∧ Q .non (upd H l (.lst (xs ++ zs)))) := by
  intro pins s σ H x vs v us Q I rx rv h
  obtain ⟨l, b, xs, zs, rfl, rfl, hH, hB, hz, q⟩ := h
  cases rx
  obtain ⟨u, rfl, ru⟩ := rv.one
  cases ru
  obtain ⟨z, its, n, r, hl, e⟩ := I.lstM hH
  obtain ⟨its2, r2, hl2, _⟩ := I.list hB
  obtain ⟨⟨oc2, od2, oda2, osl2⟩, n2, e2, c2, d2, z2⟩ := hl2
  simp only at c2 d2 z2
  subst c2 d2 z2
  have hl2 := r2.length
  have hsz : its.toArray.size + its2.toArray.size ≤ sizeLine := by rw [List.size_toArray, List.size_toArray]; omega
  have hlong : ¬ (!its.toArray.isEmpty && Builtin.List.listTooLong (its.toArray.size + its2.toArray.size)) = true := by
    rw [notLongL hsz, Bool.and_false]
    exact Bool.false_ne_true
  refine call_meets F.slot_list_extend ⟨_, e, rfl⟩ F.entry_list_extend (F.args_list_extend_2 _ _)
    (list_extendW l its.toArray n b its2.toArray n2 osl2 hlong (by rw [List.size_toArray]; omega) (by omega)) ⟨e, e2, ?_⟩
  refine ⟨.non, _, I.lset (its' := its ++ its2) hH e (by simp) (r.append r2) ?_, rfl, q⟩
  rw [List.length_append]
  omega
theorem mtR_of {id : String} {r : V → List V → Hp → VK → Prop} (h : MtM X id r) : MtR X id r := h
def mutId : Mo → D → String
  | .append, _ => "list.append" | .extend, _ => "list.extend" | .pop0, _ => "list.pop" | .insert, _ => "list.insert" | .remove, _ => "list.remove" | .reverse, _ => "list.reverse" | .clear, _ => "list.clear"
  | .pop1, .dK _ _ => "dict.pop" | .pop1, _ => "list.pop"
theorem fits_cells {k : Nat} {ln : Bool} (R : Rg W g S H) (h : RK W g S H a v f) (fr : Fre g S N f) (e : fits k ln a = true) :
    ∃ g' f', f'.Sublist f ∧ Rg W g' S H ∧ Gr (· ∈ f) g S H g' S H ∧ Rt W g'.r (g'.G ln) H a.2 k v f' ∧ f'.Nodup ∧ (∀ z ∈ f', g'.L z = none ∧ ¬ Own g' S z) ∧ g'.fp = g.fp ∧ g'.r = g.r := by
  obtain ⟨g', f', s, R', gr, rt, o1, o2, o3, o4⟩ := fits_rk R h fr.nd (fre_T fr) e
  exact ⟨g', f', s, R', gr, rt, fr.nd.sublist s, fun z hz => ⟨o2 z hz, fun ⟨n, b, l, q⟩ => (fr.fr z (s.subset hz)).2.1 ⟨n, b, l, by rw [← o3]; exact q⟩⟩, o3, o4⟩
theorem own_dis {n : Nat} {b : Bx} (lv : Live S n b) {f0 t : List Addr} (h0 : ∀ z ∈ f0, z ∈ g.fp n) (ht : ∀ z ∈ t, g.L z = none ∧ ¬ Own g S z) : ∀ z ∈ f0, z ∉ t := fun z hz q => (ht z q).2 ⟨n, b, lv, h0 z hz⟩
theorem dropLast_erase {α : Type} : ∀ (l : List α), l.eraseIdx (l.length - 1) = l.dropLast
  | [] => rfl
  | [_] => rfl
  | a :: b :: l => by
    show (a :: b :: l).eraseIdx ((b :: l).length) = _
    have := dropLast_erase (b :: l)
    rw [List.length_cons, List.eraseIdx_cons_succ, List.dropLast_cons_of_ne_nil (by simp)]
    rw [← this]; simp
theorem drop_pos {k : Key} {j : Nat} : ∀ {kvs : List (Key × V)}, (kvs.map (·.1)).Nodup → posOf (kvs.map (·.1)) k = some j → dropK kvs k = kvs.eraseIdx j
  | [], _, e => by simp [posOf] at e
  | (k', v) :: r, nd, e => by
    obtain ⟨n1, n2⟩ := List.nodup_cons.mp (show (k' :: r.map (·.1)).Nodup from nd)
    unfold posOf at e
    rw [List.map_cons, List.findIdx?_cons] at e
    by_cases q : k' = k
    · subst q
      simp at e
      subst e
      unfold dropK
      rw [List.filter_cons]
      simp only [ne_eq, not_true_eq_false, decide_false, Bool.false_eq_true, if_false, List.eraseIdx_cons_zero]
      refine List.filter_eq_self.mpr fun p hp => ?_
      simp only [decide_not, Bool.not_eq_true', decide_eq_false_iff_not]
      exact fun e => n1 (e ▸ List.mem_map.mpr ⟨p, hp, rfl⟩)
    · simp only [q, decide_false, Bool.false_eq_true, if_false] at e
      obtain ⟨j', e1, e2⟩ := Option.map_eq_some_iff.mp e
      subst e2
      have ih := drop_pos n2 e1
      unfold dropK at ih ⊢
      rw [List.filter_cons, if_pos (by simp [q]), ih, List.eraseIdx_cons_succ]
theorem put_pos {κ : Type} [DecidableEq κ] {k : κ} {u : V} {j : Nat} : ∀ {kvs : List (κ × V)}, (kvs.map (·.1)).Nodup → posOf (kvs.map (·.1)) k = some j → putK kvs k u = kvs.set j (k, u)
  | [], _, e => by simp [posOf] at e
  | (k', v) :: r, nd, e => by
    obtain ⟨n1, n2⟩ := List.nodup_cons.mp (show (k' :: r.map (·.1)).Nodup from nd)
    unfold posOf at e
    rw [List.map_cons, List.findIdx?_cons] at e
    by_cases q : k' = k
    · subst q
      simp at e
      subst e
      unfold putK
      rw [if_pos (by simp)]
      simp only [List.map_cons, if_true, List.set_cons_zero, List.cons.injEq, true_and]
      refine (List.map_congr_left fun p hp => ?_).trans (List.map_id _)
      rw [if_neg]
      · rfl
      · exact fun e => n1 (e ▸ List.mem_map.mpr ⟨p, hp, rfl⟩)
    · simp only [q, decide_false, Bool.false_eq_true, if_false] at e
      obtain ⟨j', e1, e2⟩ := Option.map_eq_some_iff.mp e
      subst e2
      have ih := put_pos (u := u) n2 e1
      have hany : (r.any fun kv => decide (kv.1 = k)) = true := by
        have hj := posOf_lt e1
        rw [List.length_map] at hj
        obtain ⟨hj2, t1, _⟩ := List.findIdx?_eq_some_iff_getElem.mp (show (r.map (·.1)).findIdx? (fun q => decide (q = k)) = some j' from e1)
        rw [List.any_eq_true]
        exact ⟨r[j'], List.getElem_mem _, by simpa using t1⟩
      unfold putK at ih ⊢
      rw [if_pos hany] at ih
      rw [if_pos (by simp [hany]), List.map_cons, if_neg (show ¬ (k', v).1 = k from q), ih, List.set_cons_succ]
theorem put_none {κ : Type} [DecidableEq κ] {k : κ} {u : V} {kvs : List (κ × V)} (e : posOf (kvs.map (·.1)) k = none) : putK kvs k u = kvs ++ [(k, u)] := by
  unfold putK
  rw [if_neg]
  intro h
  obtain ⟨p, hp, q⟩ := List.any_eq_true.mp h
  have := List.findIdx?_eq_none_iff.mp (show (kvs.map (·.1)).findIdx? (fun q => decide (q = k)) = none from e) p.1 (List.mem_map.mpr ⟨p, hp, rfl⟩)
  simp at this q
  exact this q
theorem mt_dpop : MtR X "dict.pop" (fun x xs H Q => ∃ a kvs k v, x = .ref a ∧ xs = [kV k] ∧ H a = some (.dK kvs) ∧ valV kvs k = some v ∧ ((kvs.map (·.1)).Nodup → Q v (upd H a (.dK (dropK kvs k))))) := by
  intro pins s σ H x xs v us Q I rx rs h
  obtain ⟨a, kvs, k, w, rfl, rfl, hH, l, q⟩ := h
  obtain rfl : v = Value.ref a := rx
  obtain ⟨u1, rfl, r1⟩ := Vals.one rs
  obtain ⟨z, hd, vs, rel, dd⟩ := dk_of I.hok hH
  obtain ⟨_, _, _, _, _, _, _, _, nd⟩ := dd
  have nd' : (kvs.map (·.1)).Nodup := by rw [rel.keys]; exact nd
  exact d_pop I hH r1 l (.inl rfl) fun w' s3 I3 rw' => ⟨w, _, I3, rw', q nd'⟩
end
end Z

namespace Z
open PySem L2 PySem.Spec PyProof.Rows
section
variable {W : Wr} {g g' g0 g1 g2 : Gh} {S S' S1 S2 : Sto} {H H' H0 H1 H2 : Hp} {T T1 T2 N : Addr → Prop} {X : Cx} {v u x y : V} {vs us : List V} {f f1 f2 fp : List Addr} {Q : VK} {r : Vd} {as bs : List Vd} {d d' : D} {a : Addr} {n k : Nat} {p : List Nat} {b : Bx}
theorem map_erase {α β : Type} (f : α → β) : ∀ (l : List α) (j : Nat), (l.eraseIdx j).map f = (l.map f).eraseIdx j
  | [], _ => rfl
  | _ :: _, 0 => rfl
  | a :: l, j + 1 => by
    rw [List.eraseIdx_cons_succ, List.map_cons, List.map_cons, List.eraseIdx_cons_succ, map_erase f l j]
theorem RtL.one {ρ : Rho} {G : Hp} {d : D} (h : Rt W ρ G H d k v f) : RtL W ρ G H [d] k [v] f := ⟨v, [], f, [], rfl, by simp, h, rfl, rfl⟩
theorem nodup_app {f0 t : List Addr} (h1 : f0.Nodup) (h2 : t.Nodup) (h : ∀ z ∈ f0, z ∉ t) : (f0 ++ t).Nodup := List.nodup_append.mpr ⟨h1, h2, fun z hz w hw e => h z hz (e ▸ hw)⟩
theorem mid_nodup {pre fx post : List Addr} (h : (pre ++ fx ++ post).Nodup) : (pre ++ post).Nodup ∧ fx.Nodup ∧ ∀ z ∈ fx, z ∉ pre ++ post := by
  obtain ⟨h1, h2, h3⟩ := List.nodup_append.mp h
  obtain ⟨h4, h5, h6⟩ := List.nodup_append.mp h1
  exact ⟨List.nodup_append.mpr ⟨h4, h2, fun z hz w hw e => h3 z (List.mem_append_left _ hz) w hw e⟩, h5, fun z hz q => by
    rcases List.mem_append.mp q with q | q
    · exact h6 z q z hz rfl
    · exact h3 z (List.mem_append_right _ hz) z q rfl⟩
/-- the i-th of a list in a box is taken out -/
theorem out_lst (R : Rg W g S H) (lv : Live S n b) (hk : b.lk = false) (hr : g.r n = some a) {xs : List D} (pt : Pt W (g.G b.ln) H p b.d b.dp (.ref a) (.lst xs) (k + 1) v) {i : Nat} {z : D} (hz : xs[i]? = some z)
    (po : PoM W g S H f (setB S n (pathSet b.d p (.lst (xs.eraseIdx i)))) (norm (if k = 0 then .vl b.ln else .fr k b.ln, z)) Q) :
    ∃ c vs w, v = .ref c ∧ H c = some (.lst vs) ∧ vs.length = xs.length ∧ vs[i]? = some w ∧ Q w (upd H c (.lst (vs.eraseIdx i))) := by
  obtain ⟨c, vs, f0, e1, e2, rl, nd, fp0, ch⟩ := lst_change (c := a) R lv hk hr pt
  obtain ⟨w, pre, fx, post, w1, w2, w3, _, _, w6⟩ := rl.get hz
  rw [w2] at nd
  obtain ⟨n1, n2, n3⟩ := mid_nodup nd
  obtain ⟨g', C⟩ := ch (t := []) (w6 (Ex.refl _) (fun _ _ z => z) (fun _ _ _ z => z)) n1 (fun z hz => .inl (by rw [w2]; rcases List.mem_append.mp hz with q | q <;> simp [q])) (fun z hz => by cases hz)
  refine ⟨c, vs, w, e1, e2, rl.len, w1, ?_⟩
  have sub : ∀ z ∈ fx, z ∈ f0 := fun z hz => by rw [w2]; simp [hz]
  exact PoM.out R lv hk C (fun z hz => (fp0 z hz).1) n2 sub n3 w3 (fun z hz o h => by rw [upd_ne (fp0 z (sub z hz)).2]; exact h) po
theorem mutv_ok {mo : Mo} (hK : X.K = W.K) (R : Rg W g S H) (lv : Live S n b) (hk : b.lk = false) (hr : g.r n = some a) (pt : Pt W (g.G b.ln) H p b.d b.dp (.ref a) d (k + 1) v) (h : RKs W g S H bs us f) (fr : Fre g S N f)
    (e : mutv mo k b.ln d bs = some (d', r)) (po : PoM W g S H f (setB S n (pathSet b.d p d')) r Q) : uM X (mutId mo d) v us H Q := by
  have li : ∀ {g2 : Gh} {t f0 f' : List Addr} {g' : Gh} {S' : Sto} {H' : Hp}, Gr (· ∈ f) g S H g2 S H → Chg W g2 S H n S' H' t f0 f' g' → (∀ z ∈ t, z ∈ f) → PoM W g S H f S' (.vl false, .non) Q → Q .non H' := fun {g2 t f0 f' g' S' H'} gr ch ht po => PoM.non gr ch ht po
  cases mo with
  | append =>
    cases d <;> first
      | (exfalso; rcases bs with _ | ⟨_, _ | ⟨_, _⟩⟩ <;> (have z : (none : Option (D × Vd)) = some (d', r) := e; cases z))
      | skip
    rename_i xs
    rcases bs with _ | ⟨a1, _ | ⟨_, _⟩⟩
    · have z : (none : Option (D × Vd)) = some (d', r) := e; cases z
    · obtain ⟨⟨q1, q2⟩, q3⟩ := ite_some (show (if fits k b.ln a1 = true ∧ xs.length < sizeLine then some (D.lst (xs ++ [a1.2]), ((.vl false, .non) : Vd)) else none) = some (d', r) from e)
      cases q3
      obtain ⟨y, rfl, hh⟩ := rks_one h
      obtain ⟨g2, f', s, R2, gr2, rt, nd', t1, _, _⟩ := fits_cells R hh fr q1
      obtain ⟨c, vs, f0, e1, e2, rl, nd, fp0, ch⟩ := lst_change (c := a) R2 lv hk (gr2.r n a hr) (Pt.mono (Gh.G_ex gr2 _) (Ex.refl H) pt)
      obtain ⟨g', C⟩ := ch (t := f') (RtL.app rl (RtL.one rt)) (nodup_app nd nd' (own_dis lv (fun z hz => (fp0 z hz).1) t1)) (fun z hz => List.mem_append.mp hz) t1
      exact uM_of (mtR_of mt_append) ⟨c, vs, y, e1, rfl, e2, by rw [rl.len]; exact q2, li gr2 C (fun z hz => s.subset hz) po⟩
    · have z : (none : Option (D × Vd)) = some (d', r) := e; cases z
  | extend =>
    cases d <;> first
      | (exfalso; rcases bs with _ | ⟨_, _ | ⟨_, _⟩⟩ <;> (have z : (none : Option (D × Vd)) = some (d', r) := e; cases z))
      | skip
    rename_i xs
    rcases bs with _ | ⟨⟨kk, dd⟩, _ | ⟨_, _⟩⟩
    · have z : (none : Option (D × Vd)) = some (d', r) := e; cases z
    · cases dd <;> first
        | (exfalso; have z : (none : Option (D × Vd)) = some (d', r) := e; cases z)
        | skip
      rename_i ys
      obtain ⟨⟨q1, q2⟩, q3⟩ := ite_some (show (if xs.length + ys.length ≤ sizeLine ∧ (immL ys || (decide (k = 0) && match (generalizing := false) kk with
        | .vl l => !l || b.ln
        | .fr _ l => !l || b.ln
        | _ => false)) = true then some (D.lst (xs ++ ys), ((.vl false, .non) : Vd)) else none) = some (d', r) from e)
      cases q3
      obtain ⟨y, rfl, hh⟩ := rks_one h
      have ex : ∃ g2 c2 vs2, y = .ref c2 ∧ SqL W.K H c2 vs2 ∧ Rg W g2 S H ∧ Gr (· ∈ f) g S H g2 S H ∧ RtL W g2.r (g2.G b.ln) H ys k vs2 [] := by
        by_cases i : immL ys = true
        · obtain ⟨c2, vs2, w1, w2, w3⟩ := hh.read R
          exact ⟨g, c2, vs2, w1, w2, R, Gr.refl, RtL.ofImm i (RvL.mono (R.G_le (l := false) (by cases b.ln <;> rfl)) (fun _ _ z => z) (RvL.imm R.tup i w3))⟩
        · rw [show immL ys = false by simpa using i, Bool.false_or] at q2
          obtain ⟨k0, q2⟩ := Bool.and_eq_true_iff.mp q2
          have k0' : k = 0 := of_decide_eq_true k0
          subst k0'
          have st : ∃ l, settle S kk ys = some l ∧ (!l || b.ln) = true := by
            cases kk with
            | vl l => exact ⟨l, by unfold settle; rw [if_neg i], q2⟩
            | fr _ l => exact ⟨l, by unfold settle; rw [if_neg i], q2⟩
            | tn _ _ => cases q2
          obtain ⟨l, s1, s2⟩ := st
          obtain ⟨c2, vs2, g2, w1, w2, R2, gr2, rv⟩ := lst_rk R hh fr s1
          exact ⟨g2, c2, vs2, w1, w2, R2, gr2, RtL.of0 (RvL.mono (R2.G_le s2) (fun _ _ z => z) rv)⟩
      obtain ⟨g2, c2, vs2, w1, w2, R2, gr2, rl2⟩ := ex
      obtain ⟨c, vs, f0, e1, e2, rl, nd, fp0, ch⟩ := lst_change (c := a) R2 lv hk (gr2.r n a hr) (Pt.mono (Gh.G_ex gr2 _) (Ex.refl H) pt)
      obtain ⟨g', C⟩ := ch (t := []) (RtL.app rl rl2) (by simpa using nd) (fun z hz => .inl (by simpa using hz)) (fun z hz => by cases hz)
      exact uM_of mt_extendS ⟨c, c2, vs, vs2, e1, by rw [w1], e2, by rw [hK]; exact w2, by rw [rl.len, rl2.len]; exact q1, li gr2 C (fun z hz => by cases hz) po⟩
    · have z : (none : Option (D × Vd)) = some (d', r) := by cases dd <;> exact e
      cases z
  | pop0 =>
    cases d <;> first
      | (exfalso; rcases bs with _ | ⟨_, _⟩ <;> (have z : (none : Option (D × Vd)) = some (d', r) := e; cases z))
      | skip
    rename_i xs
    rcases bs with _ | ⟨_, _⟩
    · obtain ⟨z, q1, q2⟩ := Option.map_eq_some_iff.mp (show (xs[xs.length - 1]?).map (fun x => (D.lst xs.dropLast, norm (if k = 0 then .vl b.ln else .fr k b.ln, x))) = some (d', r) from e)
      cases q2
      rw [← dropLast_erase] at po
      obtain ⟨c, vs, w, w1, w2, w3, w4, w5⟩ := out_lst R lv hk hr pt q1 po
      obtain ⟨rfl, rfl⟩ := h
      refine uM_of (mtR_of mt_pop) ⟨c, vs, w, w1, rfl, w2, by rw [w3]; exact w4, ?_⟩
      rw [← dropLast_erase, w3]
      exact w5
    · have z : (none : Option (D × Vd)) = some (d', r) := e; cases z
  | pop1 =>
    cases d <;> first
      | (exfalso; rcases bs with _ | ⟨_, _ | ⟨_, _⟩⟩ <;> (have z : (none : Option (D × Vd)) = some (d', r) := e; cases z))
      | skip
    · rename_i xs
      rcases bs with _ | ⟨⟨kk, dd⟩, _ | ⟨_, _⟩⟩
      · have z : (none : Option (D × Vd)) = some (d', r) := e; cases z
      · cases dd <;> first
          | (exfalso; have z : (none : Option (D × Vd)) = some (d', r) := e; cases z)
          | skip
        rename_i i
        have e' : (if -(2 ^ 63) ≤ i ∧ i < 2 ^ 63 then (ixN xs.length i).bind fun j => (xs[j]?).map fun x => (D.lst (xs.eraseIdx j), norm (if k = 0 then .vl b.ln else .fr k b.ln, x)) else none) = some (d', r) := e
        by_cases q : -(2 ^ 63) ≤ i ∧ i < 2 ^ 63
        · rw [if_pos q] at e'
          obtain ⟨j, q1, e2⟩ := Option.bind_eq_some_iff.mp e'
          obtain ⟨z, q2, q3⟩ := Option.map_eq_some_iff.mp e2
          cases q3
          obtain ⟨y, rfl, hh⟩ := rks_one h
          obtain ⟨c, vs, w, w1, w2, w3, w4, w5⟩ := out_lst R lv hk hr pt q2 po
          exact uM_of (mtR_of mt_popAt) ⟨c, vs, i, j, w, w1, by rw [rk_int R hh], w2, q.1, q.2, by rw [w3]; exact (ixN_seq q1).1, w4, w5⟩
        · rw [if_neg q] at e'; cases e'
      · have z : (none : Option (D × Vd)) = some (d', r) := by cases dd <;> exact e
        cases z
    · rename_i ks xs
      rcases bs with _ | ⟨⟨kk, dd⟩, _ | ⟨_, _⟩⟩
      · have z : (none : Option (D × Vd)) = some (d', r) := e; cases z
      · have e' : (dPos (.dK ks xs) dd).bind (fun o => o.bind fun j => (xs[j]?).map fun x => (D.dK (ks.eraseIdx j) (xs.eraseIdx j), norm (if k = 0 then .vl b.ln else .fr k b.ln, x))) = some (d', r) := by cases dd <;> exact e
        obtain ⟨o, q1, e2⟩ := Option.bind_eq_some_iff.mp e'
        obtain ⟨j, rfl, e3⟩ := Option.bind_eq_some_iff.mp e2
        obtain ⟨z, q2, q3⟩ := Option.map_eq_some_iff.mp e3
        cases q3
        obtain ⟨y, rfl, hh⟩ := rks_one h
        obtain ⟨k0, t1, t2⟩ := Option.map_eq_some_iff.mp (show dd.key.map (fun k => posOf ks k) = some (some j) by cases dd <;> exact q1)
        have ey : y = kV k0 := Rv.key (hh.read R) t1
        obtain ⟨c, kvs, f0, e1, e2, e5, rl, nd, fp0, ch⟩ := dK_change (c := a) R lv hk hr pt
        obtain ⟨w, pre, fx, post, w1, w2, w3, _, _, w6⟩ := rl.get q2
        rw [w2] at nd
        obtain ⟨n1, n2, n3⟩ := mid_nodup nd
        have sub : ∀ z ∈ fx, z ∈ f0 := fun z hz => by rw [w2]; simp [hz]
        have ev : valV kvs k0 = some w := by rw [valV_pos, e5, t2]; exact w1
        refine uM_of mt_dpop ⟨c, kvs, k0, w, e1, by rw [ey], e2, ev, fun ndk => ?_⟩
        rw [drop_pos ndk (by rw [e5]; exact t2)]
        obtain ⟨g', C⟩ := ch (t := []) (kvs' := kvs.eraseIdx j) (ks' := ks.eraseIdx j) (by rw [map_erase, e5]) (by rw [map_erase]; exact w6 (Ex.refl _) (fun _ _ z => z) (fun _ _ _ z => z)) n1 (fun z hz => .inl (by rw [w2]; rcases List.mem_append.mp hz with q | q <;> simp [q])) (fun z hz => by cases hz)
        exact PoM.out R lv hk C (fun z hz => (fp0 z hz).1) n2 sub n3 w3 (fun z hz o h => by rw [upd_ne (fp0 z (sub z hz)).2]; exact h) po
      · have z : (none : Option (D × Vd)) = some (d', r) := by cases dd <;> exact e
        cases z
  | insert =>
    cases d <;> first
      | (exfalso; rcases bs with _ | ⟨⟨_, dd⟩, _ | ⟨_, _ | ⟨_, _⟩⟩⟩ <;> first | (have z : (none : Option (D × Vd)) = some (d', r) := e; cases z; done) | (cases dd <;> (have z : (none : Option (D × Vd)) = some (d', r) := e; cases z)))
      | skip
    rename_i xs
    rcases bs with _ | ⟨⟨kk, dd⟩, _ | ⟨a1, _ | ⟨_, _⟩⟩⟩
    · have z : (none : Option (D × Vd)) = some (d', r) := e; cases z
    · have z : (none : Option (D × Vd)) = some (d', r) := by cases dd <;> exact e
      cases z
    · cases dd <;> first
        | (exfalso; have z : (none : Option (D × Vd)) = some (d', r) := e; cases z)
        | skip
      rename_i i
      obtain ⟨⟨q1, q2, q3, q4⟩, q5⟩ := ite_some (show (if fits k b.ln a1 = true ∧ xs.length < sizeLine ∧ 0 ≤ i ∧ i < 2 ^ 63 then some (D.lst (xs.take i.toNat ++ [a1.2] ++ xs.drop i.toNat), ((.vl false, .non) : Vd)) else none) = some (d', r) from e)
      cases q5
      obtain ⟨y0, y, f1, f2, rfl, rfl, h1, h2⟩ := rks_two h
      obtain ⟨g2, f', s, R2, gr2, rt, nd', t1, _, _⟩ := fits_cells R h2 (fr.sub (List.sublist_append_right _ _)) q1
      have gr2' : Gr (· ∈ f1 ++ f2) g S H g2 S H := gr2.imp fun z hz => .inr (.inr (List.mem_append_right _ hz))
      obtain ⟨c, vs, f0, e1, e2, rl, nd, fp0, ch⟩ := lst_change (c := a) R2 lv hk (gr2.r n a hr) (Pt.mono (Gh.G_ex gr2 _) (Ex.refl H) pt)
      have rl' := rl
      rw [← List.take_append_drop i.toNat xs] at rl'
      obtain ⟨v1, v2, p1, p2, s1, s2, s3, s4⟩ := RtL.split rl'
      have hl := rl.len
      have hl1 := s3.len
      rw [List.length_take] at hl1
      have et : vs.take i.toNat = v1 ∧ vs.drop i.toNat = v2 := by
        have hl2 := s4.len
        rw [List.length_drop] at hl2
        by_cases q : i.toNat ≤ xs.length
        · have : v1.length = i.toNat := by omega
          rw [s1, ← this]
          exact ⟨List.take_left' rfl, List.drop_left' rfl⟩
        · have z2 : v2 = [] := List.length_eq_zero_iff.mp (by omega)
          rw [z2, List.append_nil] at s1
          rw [s1, z2]
          exact ⟨List.take_of_length_le (by omega), List.drop_of_length_le (by omega)⟩
      have dis := own_dis lv (fun z hz => (fp0 z hz).1) t1
      rw [s2] at nd dis
      obtain ⟨d1, d2, d3⟩ := List.nodup_append.mp nd
      obtain ⟨g', C⟩ := ch (t := f') (RtL.app (RtL.app s3 (RtL.one rt)) s4)
        (List.nodup_append.mpr ⟨nodup_app d1 nd' fun z hz => dis z (List.mem_append_left _ hz), d2, fun z hz w hw e => by
          subst e
          rcases List.mem_append.mp hz with q | q
          · exact d3 z q z hw rfl
          · exact dis z (List.mem_append_right _ hw) q⟩) (fun z hz => by
          rw [s2]
          rcases List.mem_append.mp hz with q | q
          · rcases List.mem_append.mp q with q | q
            · exact .inl (List.mem_append_left _ q)
            · exact .inr q
          · exact .inl (List.mem_append_right _ q)) t1
      refine uM_of mt_insert ⟨c, vs, i, y, e1, by rw [rk_int R h1], e2, by rw [hl]; exact q2, q3, q4, ?_⟩
      rw [et.1, et.2]
      exact PoM.non gr2' C (fun z hz => List.mem_append_right _ (s.subset hz)) po
    · have z : (none : Option (D × Vd)) = some (d', r) := by cases dd <;> exact e
      cases z
  | remove =>
    cases d <;> first
      | (exfalso; rcases bs with _ | ⟨⟨_, dd⟩, _ | ⟨_, _⟩⟩ <;> first | (have z : (none : Option (D × Vd)) = some (d', r) := e; cases z; done) | (cases dd <;> (have z : (none : Option (D × Vd)) = some (d', r) := e; cases z)))
      | skip
    rename_i xs
    rcases bs with _ | ⟨⟨kk, dd⟩, _ | ⟨_, _⟩⟩
    · have z : (none : Option (D × Vd)) = some (d', r) := e; cases z
    · obtain ⟨w0, q0, e7⟩ := Option.bind_eq_some_iff.mp (show dd.flat.bind (fun v => (flatL xs).bind fun vs => (vs.findIdx? (fun z => eqV z v)).map fun j => (D.lst (xs.eraseIdx j), ((.vl false, .non) : Vd))) = some (d', r) from e)
      obtain ⟨ns, q1, e8⟩ := Option.bind_eq_some_iff.mp e7
      obtain ⟨j, q2, q3⟩ := Option.map_eq_some_iff.mp e8
      cases q3
      obtain ⟨y, rfl, hh⟩ := rks_one h
      obtain ⟨c, vs, f0, e1, e2, rl, nd, fp0, ch⟩ := lst_change (c := a) R lv hk hr pt
      obtain ⟨z1, z2⟩ := Rv.flat (hh.read R) q0
      obtain ⟨z3, z4⟩ := (rl.read (R.G_h _)).flat q1
      subst z1 z3
      obtain ⟨hj, t1, t2⟩ := List.findIdx?_eq_some_iff_getElem.mp q2
      have hx : j < xs.length := by rw [← rl.len]; exact hj
      obtain ⟨w, pre, fx, post, w1, w2, w3, _, _, w6⟩ := rl.get (List.getElem?_eq_getElem hx)
      rw [w2] at nd
      obtain ⟨n1, n2, n3⟩ := mid_nodup nd
      obtain ⟨g', C⟩ := ch (t := []) (w6 (Ex.refl _) (fun _ _ z => z) (fun _ _ _ z => z)) n1 (fun z hz => .inl (by rw [w2]; rcases List.mem_append.mp hz with q | q <;> simp [q])) (fun z hz => by cases hz)
      refine uM_of (mtR_of mt_removeF) ⟨c, vs, y, j, vs[j], e1, rfl, e2, z2, z4, List.getElem?_eq_getElem hj, t1, fun m z' hm q => ?_, ?_⟩
      · have hm' : m < vs.length := by omega
        rw [List.getElem?_eq_getElem hm'] at q
        cases q
        simpa using t2 m hm
      · exact PoM.non Gr.refl C (fun z hz => by cases hz) po
    · have z : (none : Option (D × Vd)) = some (d', r) := by cases dd <;> exact e
      cases z
  | reverse =>
    cases d <;> first
      | (exfalso; rcases bs with _ | ⟨_, _⟩ <;> (have z : (none : Option (D × Vd)) = some (d', r) := e; cases z))
      | skip
    rename_i xs
    rcases bs with _ | ⟨_, _⟩
    · have e' : some (D.lst xs.reverse, ((.vl false, .non) : Vd)) = some (d', r) := e
      cases e'
      obtain ⟨rfl, rfl⟩ := h
      obtain ⟨c, vs, f0, e1, e2, rl, nd, fp0, ch⟩ := lst_change (c := a) R lv hk hr pt
      obtain ⟨f', pm, rl'⟩ := rl.rev
      obtain ⟨g', C⟩ := ch (t := []) rl' (pm.nodup_iff.mpr nd) (fun z hz => .inl (pm.mem_iff.mp hz)) (fun z hz => by cases hz)
      exact uM_of (mtR_of mt_reverse) ⟨c, vs, e1, rfl, e2, PoM.non Gr.refl C (fun z hz => by cases hz) po⟩
    · have z : (none : Option (D × Vd)) = some (d', r) := e; cases z
  | clear =>
    cases d <;> first
      | (exfalso; rcases bs with _ | ⟨_, _⟩ <;> (have z : (none : Option (D × Vd)) = some (d', r) := e; cases z))
      | skip
    rename_i xs
    rcases bs with _ | ⟨_, _⟩
    · have e' : some (D.lst [], ((.vl false, .non) : Vd)) = some (d', r) := e
      cases e'
      obtain ⟨rfl, rfl⟩ := h
      obtain ⟨c, vs, f0, e1, e2, rl, nd, fp0, ch⟩ := lst_change (c := a) R lv hk hr pt
      obtain ⟨g', C⟩ := ch (xs' := []) (vs' := []) (f' := []) (t := []) ⟨rfl, rfl⟩ List.nodup_nil (fun z hz => by cases hz) (fun z hz => by cases hz)
      exact uM_of (mtR_of mt_clear) ⟨c, vs, e1, rfl, e2, PoM.non Gr.refl C (fun z hz => by cases hz) po⟩
    · have z : (none : Option (D × Vd)) = some (d', r) := e; cases z
end
end Z

namespace Z
open PySem L2 PySem.Spec PyProof.Rows
def uSet (X : Cx) : TSet := fun o i v H Q => ∀ (pins : List (Addr × Obj)) (s : Shared) (σ : L2.St) (ov iv u : Value), Inv X pins σ H s → RelV o ov → RelV i iv → RelV v u → wpAny (model X.prog X.w) X.A (setItem ov iv u) (fun _ s' => ∃ H', Inv X pins σ H' s' ∧ Q H') X.xe s
theorem uSet_ok {X : Cx} : PSet X (uSet X) := fun pins s σ H o i v ov iv u Q I r1 r2 r3 h => h pins s σ ov iv u I r1 r2 r3
theorem uSet_of {X : Cx} {r : TSet} (h : PSet X r) {o i v : V} {H : Hp} {Q : Hp → Prop} (q : r o i v H Q) : uSet X o i v H Q := fun pins s σ ov iv u I r1 r2 r3 => h pins s σ H o i v ov iv u Q I r1 r2 r3 q
theorem set_dK {X : Cx} (hu : X.A.units + 1 < cLine) : PSet X (fun o i v H Q => ∃ a kvs k, o = .ref a ∧ H a = some (.dK kvs) ∧ i = kV k ∧ kvs.length < sizeLine ∧ ((kvs.map (·.1)).Nodup → Q (upd H a (.dK (putK kvs k v))))) := by
  intro pins s σ H o i v ov iv u Q I ro ri rv h
  obtain ⟨a, kvs, k, rfl, hH, rfl, hl, q⟩ := h
  obtain rfl : ov = Value.ref a := ro
  have nd : (kvs.map (·.1)).Nodup := by
    obtain ⟨z, hd, vs, rel, dd⟩ := dk_of I.hok hH
    obtain ⟨_, _, _, _, _, _, _, _, nd⟩ := dd
    rw [rel.keys]; exact nd
  exact d_setItem hu I (DPut.k hH hl) ri rv fun s' I' => ⟨_, I', q nd⟩
theorem paired_fst {κ α β : Type} {R : κ × α → κ × β → Prop} : ∀ {l : List (κ × α)} {m : List (κ × β)}, Paired (fun p q => p.1 = q.1 ∧ R p q) l m → l.map (·.1) = m.map (·.1)
  | _, _, .nil => rfl
  | _, _, .cons h t => by rw [List.map_cons, List.map_cons, h.1, paired_fst t]
theorem set_dT {X : Cx} (hu : X.A.units + 1 < cLine) : PSet X (fun o i v H Q => ∃ a b kvs k, o = .ref a ∧ H a = some (.dT kvs) ∧ i = .ref b ∧ H b = some (.tup (k.map kV)) ∧ kvs.length < sizeLine ∧ ((kvs.map (·.1)).Nodup → Q (upd H a (.dT (putK kvs k v))))) := by
  intro pins s σ H o i v ov iv u Q I ro ri rv h
  obtain ⟨a, b, kvs, k, rfl, hH, rfl, hb, hl, q⟩ := h
  obtain rfl : ov = Value.ref a := ro
  have nd : (kvs.map (·.1)).Nodup := by
    obtain ⟨z, hd, xs, pr, o, es, ep, _, _, _, _, nd⟩ := (show ObjOk X.prog X.w H s.heap a (.dT kvs) from I.hok a _ hH)
    rw [paired_fst pr]; exact nd
  exact d_setItem hu I (DPut.t hH hb hl) ri rv fun s' I' => ⟨_, I', q nd⟩
theorem putF_some {f : Str} {v : V} {j : Nat} : ∀ {l : List (Str × V)}, posOf (l.map (·.1)) f = some j → (putF f v l).map (·.1) = l.map (·.1) ∧ (putF f v l).map (·.2) = (l.map (·.2)).set j v
  | [], e => by simp [posOf] at e
  | (g, x) :: r, e => by
    unfold posOf at e
    rw [List.map_cons, List.findIdx?_cons] at e
    unfold putF
    by_cases q : g = f
    · subst q
      simp at e
      subst e
      rw [if_pos rfl]
      exact ⟨rfl, rfl⟩
    · simp only [q, decide_false, Bool.false_eq_true, if_false] at e
      obtain ⟨j', e1, e2⟩ := Option.map_eq_some_iff.mp e
      subst e2
      obtain ⟨h1, h2⟩ := putF_some (v := v) (l := r) e1
      rw [if_neg q]
      exact ⟨by rw [List.map_cons, List.map_cons, h1], by rw [List.map_cons, List.map_cons, List.set_cons_succ, h2]⟩
theorem putF_none {f : Str} {v : V} : ∀ {l : List (Str × V)}, posOf (l.map (·.1)) f = none → putF f v l = l ++ [(f, v)]
  | [], _ => rfl
  | (g, x) :: r, e => by
    unfold posOf at e
    rw [List.map_cons, List.findIdx?_cons] at e
    unfold putF
    by_cases q : g = f
    · subst q; simp at e
    · simp only [q, decide_false, Bool.false_eq_true, if_false, Option.map_eq_none_iff] at e
      rw [if_neg q, putF_none (l := r) e]; rfl
theorem posOf_get {κ : Type} [DecidableEq κ] {ks : List κ} {k : κ} {j : Nat} (h : posOf ks k = some j) : ks[j]? = some k := by
  obtain ⟨hj, u1, _⟩ := List.findIdx?_eq_some_iff_getElem.mp (show ks.findIdx? (fun q => decide (q = k)) = some j from h)
  rw [List.getElem?_eq_getElem hj, of_decide_eq_true u1]
theorem set_keys {κ : Type} {k : κ} {u : V} : ∀ {l : List (κ × V)} {j : Nat}, (l.map (·.1))[j]? = some k → (l.set j (k, u)).map (·.1) = l.map (·.1)
  | [], _, h => by simp at h
  | (k', v) :: l, 0, h => by simp at h; subst h; rfl
  | (k', v) :: l, j + 1, h => by
    rw [List.set_cons_succ, List.map_cons, List.map_cons, set_keys (l := l) (by simpa using h)]
section
variable {W : Wr} {g g' g0 g1 g2 : Gh} {S S' S1 S2 : Sto} {H H' H0 H1 H2 : Hp} {T T1 T2 N : Addr → Prop} {X : Cx} {v u x y : V} {vs us : List V} {f f1 f2 fp : List Addr} {Q : Hp → Prop} {r a1 : Vd} {as bs : List Vd} {d d' yd : D} {a : Addr} {n k : Nat} {p : List Nat} {b : Bx}
theorem swap_nodup {pre fx post f' : List Addr} (h : (pre ++ fx ++ post).Nodup) (n' : f'.Nodup) (hd : ∀ z ∈ pre ++ fx ++ post, z ∉ f') : (pre ++ f' ++ post).Nodup := by
  obtain ⟨h1, h2, h3⟩ := List.nodup_append.mp h
  obtain ⟨h4, h5, h6⟩ := List.nodup_append.mp h1
  exact List.nodup_append.mpr ⟨nodup_app h4 n' fun z hz => hd z (by simp [hz]), h2, fun z hz w hw e => by
    subst e
    rcases List.mem_append.mp hz with q | q
    · exact h3 z (List.mem_append_left _ q) z hw rfl
    · exact hd z (by simp [hw]) q⟩
theorem Chg.out {t f0 f' : List Addr} (gr : Gr (· ∈ f) g S H g1 S H) (ch : Chg W g1 S H n S' H' t f0 f' g') (ht : ∀ z ∈ t, z ∈ f) (po : ∀ (g' : Gh) (H' : Hp), Rg W g' S' H' → Gr (· ∈ f) g S H g' S' H' → Q H') : Q H' :=
  po g' H' ch.R ((gr.trans ch.gr).imp fun z hz => .inr (.inr (hz.elim id (ht z))))
theorem setv_ok (hu : X.A.units + 1 < cLine) (R : Rg W g S H) (lv : Live S n b) (hk : b.lk = false) (hr : g.r n = some a) (pt : Pt W (g.G b.ln) H p b.d b.dp (.ref a) d (k + 1) v) (h : RK W g S H a1 u f) (fr : Fre g S N f) (ry : Rv W g.r H yd y)
    (e : setv k b.ln d yd a1 = some d') (po : ∀ (g' : Gh) (H' : Hp), Rg W g' (setB S n (pathSet b.d p d')) H' → Gr (· ∈ f) g S H g' (setB S n (pathSet b.d p d')) H' → Q H') : uSet X v y u H Q := by
  unfold setv at e
  by_cases ft : fits k b.ln a1 = true
  · rw [if_pos ft] at e
    obtain ⟨g2, f', s, R2, gr2, rt, nd', t1, _, _⟩ := fits_cells R h fr ft
    have pt2 := Pt.mono (Gh.G_ex gr2 b.ln) (Ex.refl H) pt
    have hr2 := gr2.r n a hr
    have subf : ∀ z ∈ f', z ∈ f := fun z hz => s.subset hz
    split at e
    · rename_i xs i
      obtain ⟨j, q1, q2⟩ := Option.map_eq_some_iff.mp e
      subst q2
      obtain ⟨c, vs, f0, e1, e2, rl, nd, fp0, ch⟩ := lst_change (c := a) R2 lv hk hr2 pt2
      have hj : j < xs.length := (ixN_seq q1).2.1
      obtain ⟨w, pre, fx, post, w1, w2, w3, _, w5, _⟩ := rl.get (List.getElem?_eq_getElem hj)
      have dis := own_dis lv (fun z hz => (fp0 z hz).1) t1
      rw [w2] at nd dis
      obtain ⟨g', C⟩ := ch (t := f') (w5 (Ex.refl _) (fun _ _ z => z) (fun _ _ _ z => z) rt) (swap_nodup nd nd' dis) (fun z hz => by
        rw [w2]
        rcases List.mem_append.mp hz with q | q
        · rcases List.mem_append.mp q with q | q
          · exact .inl (by simp [q])
          · exact .inr q
        · exact .inl (by simp [q])) t1
      exact uSet_of set_list ⟨c, vs, i, j, e1, ry, e2, by rw [rl.len]; exact q1, C.out gr2 subf po⟩
    · rename_i ks xs
      by_cases q0 : ks.length < sizeLine
      · rw [if_pos q0] at e
        obtain ⟨k0, q1, q2⟩ := Option.map_eq_some_iff.mp e
        have ey : y = kV k0 := Rv.key ry q1
        obtain ⟨c, kvs, f0, e1, e2, e5, rl, nd, fp0, ch⟩ := dK_change (c := a) R2 lv hk hr2 pt2
        have dis := own_dis lv (fun z hz => (fp0 z hz).1) t1
        refine uSet_of (set_dK hu) ⟨c, kvs, k0, e1, e2, ey, by rw [← e5, List.length_map] at q0; exact q0, fun ndk => ?_⟩
        cases hp : posOf ks k0 with
        | some j =>
          rw [hp] at q2
          subst q2
          have hj : j < xs.length := by
            have := posOf_lt hp
            have h2 := rl.len
            rw [List.length_map] at h2
            rw [← e5, List.length_map] at this
            omega
          obtain ⟨w, pre, fx, post, w1, w2, w3, _, w5, _⟩ := rl.get (List.getElem?_eq_getElem hj)
          rw [w2] at nd dis
          rw [put_pos ndk (by rw [e5]; exact hp)]
          obtain ⟨g', C⟩ := ch (t := f') (kvs' := kvs.set j (k0, u)) (ks' := ks) (by rw [set_keys (by rw [e5]; exact posOf_get hp), e5]) (by rw [List.map_set]; exact w5 (Ex.refl _) (fun _ _ z => z) (fun _ _ _ z => z) rt) (swap_nodup nd nd' dis) (fun z hz => by
            rw [w2]
            rcases List.mem_append.mp hz with q | q
            · rcases List.mem_append.mp q with q | q
              · exact .inl (by simp [q])
              · exact .inr q
            · exact .inl (by simp [q])) t1
          exact C.out gr2 subf po
        | none =>
          rw [hp] at q2
          subst q2
          rw [put_none (by rw [e5]; exact hp)]
          obtain ⟨g', C⟩ := ch (t := f') (kvs' := kvs ++ [(k0, u)]) (ks' := ks ++ [k0]) (by rw [List.map_append, e5]; rfl) (by rw [List.map_append]; exact RtL.app rl (RtL.one rt)) (nodup_app nd nd' dis) (fun z hz => List.mem_append.mp hz) t1
          exact C.out gr2 subf po
      · rw [if_neg q0] at e; cases e
    · rename_i ks xs ys
      by_cases q0 : ks.length < sizeLine
      · rw [if_pos q0] at e
        obtain ⟨k0, q1, q2⟩ := Option.map_eq_some_iff.mp e
        obtain ⟨tb, ts, r1, r2, r3⟩ := ry
        have ey := RvL.key r3 q1
        obtain ⟨c, kvs, f0, e1, e2, e5, rl, nd, fp0, ch⟩ := dT_change (c := a) R2 lv hk hr2 pt2
        have dis := own_dis lv (fun z hz => (fp0 z hz).1) t1
        refine uSet_of (set_dT hu) ⟨c, tb, kvs, k0, e1, e2, r1, by rw [r2, ey], by rw [← e5, List.length_map] at q0; exact q0, fun ndk => ?_⟩
        cases hp : posOf ks k0 with
        | some j =>
          rw [hp] at q2
          subst q2
          have hj : j < xs.length := by
            have := posOf_lt hp
            have h2 := rl.len
            rw [List.length_map] at h2
            rw [← e5, List.length_map] at this
            omega
          obtain ⟨w, pre, fx, post, w1, w2, w3, _, w5, _⟩ := rl.get (List.getElem?_eq_getElem hj)
          rw [w2] at nd dis
          rw [put_pos ndk (by rw [e5]; exact hp)]
          obtain ⟨g', C⟩ := ch (t := f') (kvs' := kvs.set j (k0, u)) (ks' := ks) (by rw [set_keys (by rw [e5]; exact posOf_get hp), e5]) (by rw [List.map_set]; exact w5 (Ex.refl _) (fun _ _ z => z) (fun _ _ _ z => z) rt) (swap_nodup nd nd' dis) (fun z hz => by
            rw [w2]
            rcases List.mem_append.mp hz with q | q
            · rcases List.mem_append.mp q with q | q
              · exact .inl (by simp [q])
              · exact .inr q
            · exact .inl (by simp [q])) t1
          exact C.out gr2 subf po
        | none =>
          rw [hp] at q2
          subst q2
          rw [put_none (by rw [e5]; exact hp)]
          obtain ⟨g', C⟩ := ch (t := f') (kvs' := kvs ++ [(k0, u)]) (ks' := ks ++ [k0]) (by rw [List.map_append, e5]; rfl) (by rw [List.map_append]; exact RtL.app rl (RtL.one rt)) (nodup_app nd nd' dis) (fun z hz => List.mem_append.mp hz) t1
          exact C.out gr2 subf po
      · rw [if_neg q0] at e; cases e
    · cases e
  · rw [if_neg ft] at e; cases e
theorem setf_ok {fl : Str} (R : Rg W g S H) (lv : Live S n b) (hk : b.lk = false) (hr : g.r n = some a) (pt : Pt W (g.G b.ln) H p b.d b.dp (.ref a) d (k + 1) v) (h : RK W g S H a1 u f) (fr : Fre g S N f)
    (e : setf k b.ln d fl a1 = some d') (po : ∀ (g' : Gh) (H' : Hp), Rg W g' (setB S n (pathSet b.d p d')) H' → Gr (· ∈ f) g S H g' (setB S n (pathSet b.d p d')) H' → Q H') :
    ∃ c cl dx fs, v = .ref c ∧ H c = some (.ins (W.cl cl) dx fs) ∧ fs.length < 1000 ∧ Q (upd H c (.ins (W.cl cl) dx (putF fl u fs))) := by
  unfold setf at e
  by_cases ft : fits k b.ln a1 = true
  · rw [if_pos ft] at e
    obtain ⟨g2, f', s, R2, gr2, rt, nd', t1, _, _⟩ := fits_cells R h fr ft
    have pt2 := Pt.mono (Gh.G_ex gr2 b.ln) (Ex.refl H) pt
    have hr2 := gr2.r n a hr
    have subf : ∀ z ∈ f', z ∈ f := fun z hz => s.subset hz
    split at e
    · rename_i cl ks xs
      obtain ⟨q0, q2⟩ := ite_some e
      obtain ⟨c, dx, kvs, f0, e1, e2, e5, rl, nd, fp0, ch⟩ := obj_change (c := a) R2 lv hk hr2 pt2
      have dis := own_dis lv (fun z hz => (fp0 z hz).1) t1
      refine ⟨c, cl, dx, kvs, e1, e2, by rw [← e5, List.length_map] at q0; exact q0, ?_⟩
      cases hp : posOf ks fl with
      | some j =>
        rw [hp] at q2
        subst q2
        have hj : j < xs.length := by
          have := posOf_lt hp
          have h2 := rl.len
          rw [List.length_map] at h2
          rw [← e5, List.length_map] at this
          omega
        obtain ⟨w, pre, fx, post, w1, w2, w3, _, w5, _⟩ := rl.get (List.getElem?_eq_getElem hj)
        rw [w2] at nd dis
        obtain ⟨k1, k2⟩ := putF_some (v := u) (l := kvs) (by rw [e5]; exact hp)
        obtain ⟨g', C⟩ := ch (t := f') (kvs' := putF fl u kvs) (fs' := ks) (by rw [k1, e5]) (by rw [k2]; exact w5 (Ex.refl _) (fun _ _ z => z) (fun _ _ _ z => z) rt) (swap_nodup nd nd' dis) (fun z hz => by
          rw [w2]
          rcases List.mem_append.mp hz with q | q
          · rcases List.mem_append.mp q with q | q
            · exact .inl (by simp [q])
            · exact .inr q
          · exact .inl (by simp [q])) t1
        exact C.out gr2 subf po
      | none =>
        rw [hp] at q2
        subst q2
        rw [putF_none (by rw [e5]; exact hp)]
        obtain ⟨g', C⟩ := ch (t := f') (kvs' := kvs ++ [(fl, u)]) (fs' := ks ++ [fl]) (by rw [List.map_append, e5]; rfl) (by rw [List.map_append]; exact RtL.app rl (RtL.one rt)) (nodup_app nd nd' dis) (fun z hz => List.mem_append.mp hz) t1
        exact C.out gr2 subf po
    · cases e
  · rw [if_neg ft] at e; cases e
end
end Z

namespace Z
open PySem L2 PySem.Spec PyProof.Rows
section
variable {X : Cx} {CX : CXT} {k : Nat} {f C : Addr} {fd : FuncData} {ps : List Str} {sp : Sp} {dvs : List V} {ds : List Value} {E : L2.St → XK} {x m : Str} {p pos apos : Pos} {o e : Expr} {es : List Expr} {ta : TE} {t : TA}
theorem pe_call0SD (F : FnOk X.prog X.w X.K X.mg X.base CX k f fd ps sp) (hr : Room k X.A) (hg : Gl X x) (hm : X.mg x = some (.ref f)) (hk : PySem.W.keepIn X.K (.ref f) = true) (hb : Binds X.K fd ps ds) (hd : Vals dvs ds) (hx : ∀ σ, PassesAt CX X σ (E σ))
    (hdb : (x == ("__debug__" : Str)) = false := by decide) : PE X (.Call (.Name x p) [] [] pos) (tCallSD sp dvs E tNil) := by
  refine ⟨fun pins s σ H Q I h => ?_⟩
  refine wpAny_Call_Name_kw (ld_glob I hg hm ?_ hdb)
  exact PySem.W.callWith_K0 I.kIn hk (run_fnSD (us := []) F hr hb hd (hx σ) I .nil h)
def tMethSD (C : Addr) (m : Str) (sp : Sp) (dvs : List V) (E : L2.St → XK) (ta : TE) (t : TA) : TE := fun σ H Q => ta σ H fun x H1 => ∃ a dx fs, x = .ref a ∧ H1 a = some (.ins C dx fs) ∧ fs.lookup m = none ∧ t σ H1 fun vs H2 => sp (x :: (vs ++ dvs)) H2 Q (E σ)
theorem meth_eval {env : Env} (hb : attributeBase o m env (eval o env) = eval o env) (hp : es.all plainE = true) (hn : es.length < 20) (hl : (apos.endLine == pos.line) = true) : eval (.Call (.Attribute o m apos) es [] pos) env = (do
      let ov ← eval o env
      standAt apos.atName
      let (f, first) ← holding [ov] (getMethod ov m (do return (← importBound o env).getD true))
      callWith pos f first (backTo pos (starEach es env)) (backToKw pos (keywordEach [] env))) := by
  have h : eval (.Call (.Attribute o m apos) es [] pos) env = (do
    let ov ← attributeBase o m env (eval o env)
    standAt apos.atName
    methodCall o m apos pos env ov (es.length + ([] : List Keyword).length) (backTo pos (starEach es env)) (backToKw pos (keywordEach [] env))) := by
    first
      | rfl
      | (unfold eval; rfl)
      | simp only [eval]
  have hf : methodCallForm (es.length + ([] : List Keyword).length) (backTo pos (starEach es env)) (backToKw pos (keywordEach [] env)) = true := by
    unfold methodCallForm
    rw [star_all hp]
    simp only [Bool.true_and, Bool.and_eq_true, decide_eq_true_eq]
    refine ⟨by rfl, ?_⟩
    show es.length + 0 + 0 < 30
    omega
  rw [h, hb]
  unfold methodCall
  rw [hf]
  unfold methodCallPos calleeOf
  rw [if_pos (show (!true || (apos.endLine == pos.line)) = true by rw [hl]; rfl)]
  rfl
theorem pe_methSD (hp : es.all plainE = true) (he : PE X o ta) (c : Cls X.K C) (hm : Meth X.K C m f) (F : FnOk X.prog X.w X.K X.mg X.base CX k f fd ps sp) (hr : Room k X.A) (hb : Binds X.K fd ps ds) (hd : Vals dvs ds) (hx : ∀ σ, PassesAt CX X σ (E σ))
    (hbase : attributeBase o m X.env (eval o X.env) = eval o X.env) (hn : es.length < 20) (hl : (apos.endLine == pos.line) = true) :
    PE X (.Call (.Attribute o m apos) es [] pos) (tMethSD C m sp dvs E ta (uL X es)) := by
  refine ⟨fun pins s σ H Q I h => ?_⟩
  refine PySem.W.methodCall_KW (pl := _) (thn (he.run pins s σ H _ I h) fun u s1 ⟨x, H1, I1, rx, a, dx, fs, ex, ea, l, q⟩ => ?_) (meth_eval hbase hp hn hl)
  subst ex
  obtain rfl : u = Value.ref a := rx
  refine getmeth_ok I1 ea c hm l ?_
  cases es with
  | nil => exact PySem.W.callWith_K0 (first := [.ref a]) I1.kIn hm.kp (run_fnSD (us := [.ref a]) (vs := [.ref a]) F hr hb hd (hx σ) I1 (.cons rfl .nil) q)
  | cons e es =>
    obtain ⟨hp1, hp2⟩ := Bool.and_eq_true_iff.mp (show (plainE e && es.all plainE) = true from hp)
    refine PySem.W.callWith_K (first := [.ref a]) (h₀ := X.base) I1.ok.mod.kin hm.kp (thn ((pa_u hp).run pos pins s1 σ H1 _ I1 q) fun us s2 ⟨vs, H2, I2, r, q2⟩ => ⟨I2.kIn, ?_⟩) (star_cons hp1) (star_any hp2)
    exact run_fnSD (us := .ref a :: us) (vs := .ref a :: vs) F hr hb hd (hx σ) I2 (.cons rfl r) q2
def tMakeSD (C : Addr) (sp : Sp) (dvs : List V) (E : L2.St → XK) (t : TA) : TE := fun σ H Q => t σ H fun vs H1 => ∀ x dx, H1 x = none → H1 dx = none → dx ≠ x →
  sp (.ref x :: (vs ++ dvs)) (upd (upd H1 dx (.own x)) x (.ins C dx [])) (fun v H2 => v = .non ∧ Q (.ref x) H2) (E σ)
theorem run_makeSD {fI : Addr} {pins : List (Addr × Obj)} {σ : L2.St} {H : Hp} {s : Shared} {Q : VK} {us : List Value} {vs : List V} (M : Mk X.K C fI) (F : FnOk X.prog X.w X.K X.mg X.base CX k fI fd ps sp) (hr : Room (k + 1) X.A) (hb : Binds X.K fd ps ds) (hd : Vals dvs ds)
    (hx : PassesAt CX X σ (E σ)) (I : Inv X pins σ H s) (r : Vals vs us)
    (h : ∀ x dx, H x = none → H dx = none → dx ≠ x → sp (.ref x :: (vs ++ dvs)) (upd (upd H dx (.own x)) x (.ins C dx [])) (fun v H2 => v = .non ∧ Q (.ref x) H2) (E σ)) :
    wpAny (model X.prog X.w) X.A (call (.ref C) us) (EP X pins σ Q) X.xe s := by
  have hq := h (s.heap.objs.size + 1) s.heap.objs.size (I.hok.fresh (Nat.le_succ _)) (I.hok.fresh (Nat.le_refl _)) (Nat.ne_of_lt (Nat.lt_succ_self _))
  have I2 := Inv.made (C := C) I
  have r2 : Vals (V.ref (s.heap.objs.size + 1) :: (vs ++ dvs)) (Value.ref (s.heap.objs.size + 1) :: (us ++ ds)) := .cons rfl (r.append hd)
  have hl : (Value.ref (s.heap.objs.size + 1) :: us ++ ds).length = ps.length := by
    have e := r2.length
    rw [F.len _ _ _ _ hq] at e
    exact e.symm
  refine wpAny_call (make_map (f := fI) I.kIn M.makes M.init (beq_iff_eq.mp M.fn) (codeAny_mono (F.run _ X.stack _ _ ⟨Value.ref (s.heap.objs.size + 1) :: us, []⟩ (Value.ref (s.heap.objs.size + 1) :: (us ++ ds)) _ _ (E σ) (hr.make C us [])
    (I2.env0.make C us []) (hb _ (Value.ref (s.heap.objs.size + 1) :: us) I2.kIn hl) r2 hq) fun r s' hq' => ?_))
  cases r with
  | error e => exact hx pins _ _ e s' I2 hq'
  | ok fl =>
    cases fl with
    | ret u =>
      obtain ⟨v, H', I3, rv, ev, q3⟩ := I2.after hq'
      subst ev
      exact ⟨rv, ⟨V.ref (s.heap.objs.size + 1), H', I3, rfl, q3⟩⟩
    | next => exact False.elim hq'
    | brk => exact False.elim hq'
    | cont => exact False.elim hq'
theorem pe_makeSD {fI : Addr} (hp : es.all plainE = true) (M : Mk X.K C fI) (F : FnOk X.prog X.w X.K X.mg X.base CX k fI fd ps sp) (hr : Room (k + 1) X.A) (hg : Gl X x) (hm : X.mg x = some (.ref C)) (hb : Binds X.K fd ps ds) (hd : Vals dvs ds) (hx : ∀ σ, PassesAt CX X σ (E σ))
    (hdb : (x == ("__debug__" : Str)) = false) : PE X (.Call (.Name x p) es [] pos) (tMakeSD C sp dvs E (uL X es)) := by
  refine ⟨fun pins s σ H Q I h => ?_⟩
  refine wpAny_Call_Name_kw (ld_glob I hg hm ?_ hdb)
  cases es with
  | nil => exact PySem.W.callWith_K0 I.kIn M.kp (run_makeSD (us := []) M F hr hb hd (hx σ) I .nil h)
  | cons e es =>
    obtain ⟨hp1, hp2⟩ := Bool.and_eq_true_iff.mp (show (plainE e && es.all plainE) = true from hp)
    refine PySem.W.callWith_K (h₀ := X.base) I.ok.mod.kin M.kp (thn ((pa_u hp).run pos pins s σ H _ I h) fun us s1 ⟨vs, H1, I1, r, q⟩ => ⟨I1.kIn, ?_⟩) (star_cons hp1) (star_any hp2)
    exact run_makeSD M F hr hb hd (hx σ) I1 r q
theorem pe_fnSD (hp : es.all plainE = true) (F : FnOk X.prog X.w X.K X.mg X.base CX k f fd ps sp) (hr : Room k X.A) (hg : Gl X x) (hm : X.mg x = some (.ref f)) (hk : PySem.W.keepIn X.K (.ref f) = true) (hb : Binds X.K fd ps ds) (hd : Vals dvs ds) (hx : ∀ σ, PassesAt CX X σ (E σ))
    (hdb : (x == ("__debug__" : Str)) = false) : PE X (.Call (.Name x p) es [] pos) (tCallSD sp dvs E (uL X es)) := by
  cases es with
  | nil => exact pe_call0SD F hr hg hm hk hb hd hx hdb
  | cons e es =>
    obtain ⟨hp1, hp2⟩ := Bool.and_eq_true_iff.mp (show (plainE e && es.all plainE) = true from hp)
    exact pe_callSD F hr hg hm hk hb hd hx (pa_u hp) hdb (star_cons hp1) (star_any hp2)
end
end Z

namespace Z
open PySem L2 PySem.Spec PyProof.Rows
section
variable {W : Wr} {t : Tb} {P : Pg} {F : Fns} {n : Nat} {l : Lc} {wx : WX} {g g' g1 g2 : Gh} {S S' S1 S2 : Sto} {H H' H1 H2 : Hp} {X : Cx} {v u : V} {vs : List V} {f f1 f2 fp : List Addr} {Q : VK} {σ : L2.St} {env : EnvD} {k : Kd} {d : D}
abbrev gam (P : Pg) (n : Nat) : Ga := ⟨run P n, P.cls, none, runX P, P.nx⟩
abbrev gamW (W : Wr) (P : Pg) (n : Nat) : Ga := ⟨run P n, P.cls, W.xs.map fun q => (q.1, q.2.2), runX P, P.nx⟩
theorem cmp_hot {o : Op} {p : CmpOp} (h : (opK o).cmpO = some p) : hotOp o = true := by cases o <;> first | rfl | (cases h; done)
theorem hot_q {X : Cx} {W : Wr} {t : Tb} {l : Lc} {q : Bool} (F : Ft X W t l) (h : (!l.hot || q) = true) : q = false → X.calm = true := fun z => F.calm (by rw [z, Bool.or_false] at h; simpa using h)
def EvS (W : Wr) (t : Tb) (P : Pg) (F : Fns) (n : Nat) (e : E) : Prop := ∀ {X : Cx} {l : Lc} {wx : WX}, Cf X W t P F n l wx → ∀ {x : Expr}, mE t P l e x = true → ∀ {env : EnvD} {S : Sto} {g : Gh} {H : Hp} {σ : L2.St} {Q : VK}, Rg W g S H → EnvOk W g σ env → EvP W wx σ g S H (ev (gamW W P n) e env S) Q → uE X x σ H Q
def EvsS (W : Wr) (t : Tb) (P : Pg) (F : Fns) (n : Nat) (es : List E) : Prop := ∀ {X : Cx} {l : Lc} {wx : WX}, Cf X W t P F n l wx → ∀ {xs : List Expr}, mEs t P l es xs = true → ∀ {env : EnvD} {S : Sto} {g : Gh} {H : Hp} {σ : L2.St} {Q : List V → Hp → Prop}, Rg W g S H → EnvOk W g σ env → EvL W wx σ g S H (evs (gamW W P n) es env S) Q → uL X xs σ H Q
theorem and4 {a b c d : Bool} (h : (a && b && c && d) = true) : a = true ∧ b = true ∧ c = true ∧ d = true := by
  simp only [Bool.and_eq_true] at h
  exact ⟨h.1.1.1, h.1.1.2, h.1.2, h.2⟩
theorem evs_nil : EvsS W t P F n [] := fun {X l wx} C {xs} hm {env S g H σ Q} R eo h => by
  cases xs with
  | cons _ _ => cases hm
  | nil => exact h g H [] [] R Gr.refl (fun _ => ⟨rfl, Ex.refl _⟩) ⟨rfl, rfl⟩ Fre.nil
theorem evL_stuck {r : R (List Vd × Sto × Bool)} {Q : List V → Hp → Prop} (h : EvL W wx σ g S H r Q) (e : r = .stuck) : False := by rw [e] at h; exact h
/-- one, then those behind it -/
theorem cons_rule {e : E} {es : List E} (ihe : EvS W t P F n e) (ihs : EvsS W t P F n es) (C : Cf X W t P F n l wx) {x : Expr} {xs : List Expr} (m1 : mE t P l e x = true) (m2 : mEs t P l es xs = true) (R : Rg W g S H) (eo : EnvOk W g σ env)
    {Qh : V → Hp → Prop} {Q : List V → Hp → Prop} (hd : ∀ k d S1 m1, ev (gamW W P n) e env S = .ok (k, d, S1, m1) → ∀ g1 H1 v fp, Rg W g1 S1 H1 → (m1 = false → S1 = S ∧ Ex H H1) → RK W g1 S1 H1 (k, d) v fp → Qh v H1)
    (h : EvL W wx σ g S H (evs (gamW W P n) (e :: es) env S) Q) : uE X x σ H fun v H1 => Qh v H1 ∧ uL X xs σ H1 fun vs H2 => Q (v :: vs) H2 := by
  have h' : EvL W wx σ g S H ((ev (gamW W P n) e env S).bind fun (k, d, S1, m1) => (evs (gamW W P n) es env S1).bind fun (as, S2, m2) => if m2 && isTn (k, d) then .stuck else .ok ((k, d) :: as, S2, m1 || m2)) Q := h
  cases e1 : ev (gamW W P n) e env S with
  | stuck => rw [e1] at h'; exact h'.elim
  | exc c S1 => refine ihe C m1 R eo ?_; rw [e1] at h' ⊢; exact h'
  | ok r1 =>
    obtain ⟨k, d, S1, mm1⟩ := r1
    refine ihe C m1 R eo ?_
    rw [e1] at h' ⊢
    intro g1 H1 v fp R1 gr1 hm1 rk1 fr1
    refine ⟨hd k d S1 mm1 e1 g1 H1 v fp R1 hm1 rk1, ihs C m2 R1 (eo.mono gr1) ?_⟩
    have h2 : EvL W wx σ g S H ((evs (gamW W P n) es env S1).bind fun (as, S2, m2) => if m2 && isTn (k, d) then .stuck else .ok ((k, d) :: as, S2, mm1 || m2)) Q := h'
    cases e2 : evs (gamW W P n) es env S1 with
    | stuck => rw [e2] at h2; exact h2.elim
    | exc c S2 => rw [e2] at h2; exact ExcOk.from (c := c) gr1 h2
    | ok r2 =>
      obtain ⟨as, S2, mm2⟩ := r2
      rw [e2] at h2
      have h3 : EvL W wx σ g S H (if (mm2 && isTn (k, d)) = true then .stuck else .ok ((k, d) :: as, S2, mm1 || mm2)) Q := h2
      by_cases q : (mm2 && isTn (k, d)) = true
      · rw [if_pos q] at h3; exact h3.elim
      · rw [if_neg q] at h3
        intro g2 H2 vs fp2 R2 gr2 hm2 rk2 fr2
        obtain ⟨rk1', fr1'⟩ := cons_keep gr2 rk1 fr1 (by simpa using q) hm2
        refine h3 g2 H2 (v :: vs) (fp ++ fp2) R2 (gr1.trans0 gr2) (fun z => ?_) ⟨v, vs, fp, fp2, rfl, rfl, rk1', rk2⟩ (fre_app gr1 (fun b hb => rk1.there b hb) fr1 fr2 fr1' fun a z => new_back gr1 z)
        obtain ⟨z1, z2⟩ := Bool.or_eq_false_iff.mp z
        obtain ⟨a1, a2⟩ := hm1 z1
        obtain ⟨a3, a4⟩ := hm2 z2
        exact ⟨a3.trans a1, a2.trans a4⟩
theorem evs_cons {e : E} {es : List E} (ihe : EvS W t P F n e) (ihs : EvsS W t P F n es) : EvsS W t P F n (e :: es) := fun {X l wx} C {xs} hm {env S g H σ Q} R eo h => by
  cases xs with
  | nil => cases hm
  | cons x xs =>
    obtain ⟨m1, m2⟩ := Bool.and_eq_true_iff.mp (show (mE t P l e x && mEs t P l es xs) = true from hm)
    exact uE.mono (cons_rule ihe ihs C m1 m2 R eo (Qh := fun _ _ => True) (fun _ _ _ _ _ _ _ _ _ _ _ _ => trivial) h) fun v H1 q => q.2
theorem vis_of (C : Cf X W t P F n l wx) {y : Str} (h : visB l y = true) : Vis X.env.scope y := by
  rw [C.sc]
  simp only [visB, kindB, Bool.or_eq_true, decide_eq_true_eq] at h
  rcases h with (h | h) | h
  · exact .inl h
  · exact .inr (.inl h)
  · exact .inr (.inr h)
theorem okNm_of {y : Str} (h : okNm y = true) : (y == ("__debug__" : Str)) = false ∧ (y == ("__classdict__" : Str)) = false ∧ y ≠ ("__name__" : Str) := by
  unfold okNm at h
  simp only [Bool.and_eq_true, Bool.not_eq_true', decide_eq_true_eq] at h
  exact ⟨h.1.1, h.1.2, h.2⟩
theorem case_v {i : Nat} {mv : Bool} : EvS W t P F n (.v i mv) := fun {X l wx} C {x} hm {env S g H σ Q} R eo h => by
  cases x <;> first
    | (cases hm; done)
    | skip
  rename_i y pos
  have hm' : (decide (l.N[i]? = some y) && visB l y && okNm y) = true := hm
  simp only [Bool.and_eq_true, decide_eq_true_eq] at hm'
  obtain ⟨⟨h1, h2⟩, h3⟩ := hm'
  obtain ⟨o1, o2, _⟩ := okNm_of h3
  have h' : EvP W wx σ g S H (match env[i]? with
    | some (some (l, d)) => if mv then (match d with
      | .bx n => match S[n]? with
        | some (some b) => if b.lk then .stuck else .ok (.fr b.dp b.ln, b.d, S.set n none, true)
        | _ => .stuck
      | _ => .stuck) else .ok (.vl l, d, S, false)
    | _ => .stuck) Q := h
  cases e : env[i]? with
  | none => rw [e] at h'; exact h'.elim
  | some o => cases o with
    | none => rw [e] at h'; exact h'.elim
    | some ld =>
      obtain ⟨lb, d⟩ := ld
      rw [e] at h'
      obtain ⟨v, hv, rv⟩ := eo.2 i lb d e
      refine uE_of (pe_var (by rw [C.N]; exact h1) (vis_of C h2) o1 o2) ⟨v, hv, ?_⟩
      cases mv with
      | false => exact h' g H v [] R Gr.refl (fun _ => ⟨rfl, Ex.refl _⟩) ⟨rfl, rv⟩ Fre.nil
      | true =>
        have h2' : EvP W wx σ g S H (match (generalizing := false) d with
          | .bx n => match S[n]? with
            | some (some b) => if b.lk then .stuck else .ok (.fr b.dp b.ln, b.d, S.set n none, true)
            | _ => .stuck
          | _ => .stuck) Q := h'
        cases d <;> first
          | (exact h2'.elim; done)
          | skip
        rename_i m
        cases e2 : S[m]? with
        | none => simp only [e2] at h2'; exact h2'.elim
        | some o => cases o with
          | none => simp only [e2] at h2'; exact h2'.elim
          | some b =>
            simp only [e2] at h2'
            by_cases q : b.lk = true
            · rw [if_pos q] at h2'; exact h2'.elim
            · rw [if_neg q] at h2'
              have lv : Live S m b := e2
              obtain ⟨R', gr, cl⟩ := R.boxOut lv (by simpa using q)
              obtain ⟨a, r1, r2⟩ := rv
              subst r2
              obtain ⟨a', e3, rt⟩ := R.box m b lv
              rw [r1] at e3; cases e3
              exact h2' g H (.ref a) (g.fp m) R' gr (fun z => by cases z) rt ⟨R.nd m b lv, fun z hz => ⟨(cl z hz).1, (cl z hz).2.1, .inr (cl z hz).2.2⟩⟩
theorem case_k {c : D} : EvS W t P F n (.k c) := fun {X l wx} C {x} hm {env S g H σ Q} R eo h => by
  cases x <;> first
    | (cases hm; done)
    | skip
  rename_i co kk pos
  have hm' : constB c co = true := hm
  have fin : ∀ {v : V}, Rv W g.r g.F c v → Q v H := fun {v} rv => h g H v [] R Gr.refl (fun _ => ⟨rfl, Ex.refl _⟩) ⟨rfl, rv⟩ Fre.nil
  unfold constB at hm'
  split at hm' <;> first
    | (cases hm'; done)
    | skip
  · have := of_decide_eq_true hm'; subst this
    exact uE_of pe_int (fin rfl)
  · have := of_decide_eq_true hm'; subst this
    exact uE_of pe_bl (fin rfl)
  · have := of_decide_eq_true hm'; subst this
    exact uE_of pe_str (fin rfl)
  · exact uE_of pe_non (fin rfl)
theorem case_g {y : Str} {c : D} : EvS W t P F n (.g y c) := fun {X l wx} C {x} hm {env S g H σ Q} R eo h => by
  cases x <;> first
    | (cases hm; done)
    | skip
  rename_i z pos
  obtain ⟨m1, m2, m3, m4⟩ := and4 (show (decide (y = z) && gloB l z && okNm z && t.con.any fun p => decide (p.1 = y) && eqFl p.2 c) = true from hm)
  have := of_decide_eq_true m1; subst this
  obtain ⟨p, hp, hq⟩ := List.any_eq_true.mp m4
  obtain ⟨q1, q2⟩ := Bool.and_eq_true_iff.mp hq
  have e1 := of_decide_eq_true q1
  have e2 := eqFl_eq q2
  obtain ⟨py, pd⟩ := p
  simp only at e1 e2
  subst e1 e2
  obtain ⟨v, u, h1, h2, h3⟩ := C.con py pd hp
  exact uE_of (pe_glob (glo_of C.toFt m2) h1 h2 (okNm_of m3).1) (h g H v [] R Gr.refl (fun _ => ⟨rfl, Ex.refl _⟩) ⟨rfl, h3 _ _⟩ Fre.nil)
theorem tyq_ok {o : Op} {b : Vd} (hh : isMth o = true → ∃ b', der S b = some b' ∧ tyHead o S [b] = true) (hK : X.K = W.K) (R : Rg W g S H) (rk : RK W g S H b v f) : tyq X o v H := by
  unfold tyq
  cases hk : opK o with
  | mth T nm id n =>
    dsimp only
    have im : isMth o = true := by cases o <;> first | rfl | (cases hk; done)
    obtain ⟨b', e1, e2⟩ := hh im
    have rd := (rk.der R e1).read R
    obtain ⟨k, d⟩ := b'
    unfold tyHead at e2
    simp only [e1] at e2
    cases o <;> first
      | (exfalso; cases hk; done)
      | skip
    all_goals (cases hk; cases d <;> first
      | (exfalso; cases e2; done)
      | skip)
    iterate 4
      first
        | (rw [show v = _ from rd]; exact rfl)
        | (obtain ⟨c, us, w1, w2, _⟩ := rd; rw [w1]; exact .inl ⟨rfl, us, by rw [hK]; exact w2⟩)
        | (obtain ⟨c, kvs, w1, w2, _⟩ := rd; rw [w1]; exact .inr (.inr (.inl ⟨rfl, .inl ⟨kvs, w2⟩⟩)))
        | (obtain ⟨c, kvs, w1, w2, _⟩ := rd; rw [w1]; exact .inr (.inr (.inl ⟨rfl, .inr ⟨kvs, w2⟩⟩)))
    all_goals first
        | (rw [show v = _ from rd]; exact rfl)
        | (obtain ⟨c, us, w1, w2, _⟩ := rd; rw [w1]; exact .inl ⟨rfl, us, by rw [hK]; exact w2⟩)
        | (obtain ⟨c, kvs, w1, w2, _⟩ := rd; rw [w1]; exact .inr (.inr (.inl ⟨rfl, .inl ⟨kvs, w2⟩⟩)))
        | (obtain ⟨c, kvs, w1, w2, _⟩ := rd; rw [w1]; exact .inr (.inr (.inl ⟨rfl, .inr ⟨kvs, w2⟩⟩)))
  | _ => trivial
theorem op_tail {o : Op} {as : List Vd} {m : Bool} (C : Cf X W t P F n l wx) (hq : hotOp o = false → X.calm = true) (gr : Gr T0 g S H g1 S1 H1) (hm : m = false → S1 = S ∧ Ex H H1) (R1 : Rg W g1 S1 H1) (rk : RKs W g1 S1 H1 as vs fp) (fr : Fre g1 S1 (fun a => H a = none ∨ OwnU g S a) fp)
    (h : EvP W wx σ g S H ((ofO ((derL S1 as).bind fun bs => opv o S1 bs)).bind fun (k, d) => .ok (k, d, S1, m)) Q) : uOp W X o vs H1 Q := by
  cases e1 : derL S1 as with
  | none => rw [e1] at h; exact h.elim
  | some bs =>
    rw [e1] at h
    have h2 : EvP W wx σ g S H ((ofO (opv o S1 bs)).bind fun (k, d) => .ok (k, d, S1, m)) Q := h
    cases e2 : opv o S1 bs with
    | none => rw [e2] at h2; exact h2.elim
    | some r =>
      obtain ⟨k, d⟩ := r
      rw [e2] at h2
      exact opv_ok C.toFt hq R1 (rk.der R1 e1) fr e2 (PoR.po gr hm fr h2)
theorem case_op0 {o : Op} : EvS W t P F n (.op o []) := fun {X l wx} C {x} hm {env S g H σ Q} R eo h => by
  obtain ⟨hh, hm'⟩ := Bool.and_eq_true_iff.mp (show ((!l.hot || hotOp o) && (match mOp t l o x with
    | some xs => mEs t P l [] xs
    | none => false)) = true from hm)
  have hq := hot_q C.toFt hh
  cases e : mOp t l o x with
  | none => rw [e] at hm'; cases hm'
  | some xs =>
    rw [e] at hm'
    cases xs with
    | cons _ _ => cases hm'
    | nil =>
      refine opS C.toFt e ?_
      have h' : EvP W wx σ g S H (if (isMth o && (false || !tyHead o S [])) = true then .stuck else (ofO ((derL S []).bind fun bs => opv o S bs)).bind fun (k, d) => .ok (k, d, S, false)) Q := by
        have h0 : EvP W wx σ g S H ((noxIf (isMth o) (.ok ([], S, false))).bind fun (as, S1, m) => if isMth o && (m || !tyHead o S as) then .stuck else (ofO ((derL S1 as).bind fun bs => opv o S1 bs)).bind fun (k, d) => .ok (k, d, S1, m)) Q := h
        unfold noxIf at h0
        split at h0 <;> exact h0
      by_cases q : (isMth o && (false || !tyHead o S [])) = true
      · rw [if_pos q] at h'; exact h'.elim
      · rw [if_neg q] at h'
        exact op_tail (as := []) (vs := []) (fp := []) C hq Gr.refl (fun _ => ⟨rfl, Ex.refl _⟩) R ⟨rfl, rfl⟩ Fre.nil h'
theorem case_op {o : Op} {e : E} {es : List E} (ihe : EvS W t P F n e) (ihs : EvsS W t P F n es) : EvS W t P F n (.op o (e :: es)) := fun {X l wx} C {x} hm {env S g H σ Q} R eo h => by
  obtain ⟨hh, hm'⟩ := Bool.and_eq_true_iff.mp (show ((!l.hot || hotOp o) && (match mOp t l o x with
    | some xs => mEs t P l (e :: es) xs
    | none => false)) = true from hm)
  have hq := hot_q C.toFt hh
  cases em : mOp t l o x with
  | none => rw [em] at hm'; cases hm'
  | some xs =>
    rw [em] at hm'
    cases xs with
    | nil => cases hm'
    | cons x1 xs =>
      obtain ⟨m1, m2⟩ := Bool.and_eq_true_iff.mp (show (mE t P l e x1 && mEs t P l es xs) = true from hm')
      refine opS C.toFt em ?_
      have h' : EvP W wx σ g S H ((noxIf (isMth o) (evs (gamW W P n) (e :: es) env S)).bind fun (as, S1, m) => if isMth o && (m || !tyHead o S as) then .stuck else (ofO ((derL S1 as).bind fun bs => opv o S1 bs)).bind fun (k, d) => .ok (k, d, S1, m)) Q := h
      refine cons_rule ihe ihs C m1 m2 R eo (Q := fun vs H2 => uOp W X o vs H2 Q) (fun k d S1 mm1 e1 g1 H1 v fp R1 hm1 rk1 => ?_) ?_
      · -- the type of a receiver
        refine tyq_ok (S := S1) (b := (k, d)) (fun im => ?_) C.K R1 rk1
        have e2 : evs (gamW W P n) (e :: es) env S = ((evs (gamW W P n) es env S1).bind fun (as, S2, m2) => if m2 && isTn (k, d) then .stuck else .ok ((k, d) :: as, S2, mm1 || m2)) := by
          show (ev (gamW W P n) e env S).bind _ = _
          rw [e1]; rfl
        rw [e2, im] at h'
        cases e3 : evs (gamW W P n) es env S1 with
        | stuck => rw [e3] at h'; exact h'.elim
        | exc c S2 => rw [e3] at h'; exact h'.elim
        | ok r2 =>
          obtain ⟨as, S2, mm2⟩ := r2
          rw [e3] at h'
          have h3 : EvP W wx σ g S H ((noxIf true (if (mm2 && isTn (k, d)) = true then .stuck else .ok ((k, d) :: as, S2, mm1 || mm2) : Z.R (List Vd × Sto × Bool))).bind fun (as, S1, m) => if true && (m || !tyHead o S as) then .stuck else (ofO ((derL S1 as).bind fun bs => opv o S1 bs)).bind fun (k, d) => .ok (k, d, S1, m)) Q := h'
          by_cases q : (mm2 && isTn (k, d)) = true
          · rw [if_pos q] at h3; exact h3.elim
          · rw [if_neg q] at h3
            have h4 : EvP W wx σ g S H (if (true && ((mm1 || mm2) || !tyHead o S ((k, d) :: as))) = true then .stuck else (ofO ((derL S2 ((k, d) :: as)).bind fun bs => opv o S2 bs)).bind fun (k, d) => .ok (k, d, S2, mm1 || mm2)) Q := h3
            by_cases q2 : (true && ((mm1 || mm2) || !tyHead o S ((k, d) :: as))) = true
            · rw [if_pos q2] at h4; exact h4.elim
            · rw [Bool.true_and] at q2
              simp only [Bool.or_eq_true, not_or, Bool.not_eq_true, Bool.not_eq_false'] at q2
              obtain ⟨⟨q3, _⟩, q5⟩ := q2
              obtain ⟨es1, _⟩ := hm1 q3
              rw [es1]
              have q6 : tyHead o S [(k, d)] = true := q5
              cases dd : der S (k, d) with
              | none =>
                exfalso
                unfold tyHead at q6
                simp only [dd] at q6
                cases o <;> cases q6
              | some b' => exact ⟨b', rfl, q6⟩
      · -- the operation
        cases e1 : evs (gamW W P n) (e :: es) env S with
        | stuck =>
          rw [e1] at h'
          unfold noxIf at h'
          split at h' <;> exact h'.elim
        | exc c S' =>
          rw [e1] at h'
          unfold noxIf at h'
          split at h'
          · exact h'.elim
          · exact h'
        | ok r =>
          obtain ⟨as, S1, m⟩ := r
          rw [e1] at h'
          have h2 : EvP W wx σ g S H (if (isMth o && (m || !tyHead o S as)) = true then .stuck else (ofO ((derL S1 as).bind fun bs => opv o S1 bs)).bind fun (k, d) => .ok (k, d, S1, m)) Q := by
            unfold noxIf at h'
            split at h' <;> exact h'
          by_cases q : (isMth o && (m || !tyHead o S as)) = true
          · rw [if_pos q] at h2; exact h2.elim
          · rw [if_neg q] at h2
            exact fun g1 H1 vs fp R1 gr1 hm1 rk1 fr1 => op_tail C hq gr1 hm1 R1 rk1 fr1 h2
end
end Z

namespace Z
open PySem L2 PySem.Spec PyProof.Rows
section
variable {W : Wr} {t : Tb} {P : Pg} {F : Fns} {n : Nat} {l : Lc} {wx : WX} {g g' g1 g2 : Gh} {S S' S1 S2 : Sto} {H H' H1 H2 : Hp} {X : Cx} {v u : V} {vs : List V} {f f1 f2 fp : List Addr} {Q : VK} {σ : L2.St} {env : EnvD} {k : Kd} {d : D}
theorem mEs_len {l : Lc} : ∀ {es : List E} {xs : List Expr}, mEs t P l es xs = true → es.length = xs.length
  | [], [], _ => rfl
  | [], _ :: _, h => by cases h
  | _ :: _, [], h => by cases h
  | e :: es, x :: xs, h => by
    obtain ⟨_, h2⟩ := Bool.and_eq_true_iff.mp (show (mE t P l e x && mEs t P l es xs) = true from h)
    rw [List.length_cons, List.length_cons, mEs_len h2]
theorem evs_len {Γ : Ga} : ∀ {es : List E} {S : Sto} {as : List Vd} {S' : Sto} {m : Bool}, evs Γ es env S = .ok (as, S', m) → as.length = es.length
  | [], _, _, _, _, h => by cases h; rfl
  | e :: es, S, as, S', m, h => by
    obtain ⟨⟨k, d, S1, m1⟩, h1, h⟩ := bind_ok (show (ev Γ e env S).bind (fun (k, d, S1, m1) => (evs Γ es env S1).bind fun (as, S2, m2) => if m2 && isTn (k, d) then .stuck else .ok ((k, d) :: as, S2, m1 || m2)) = .ok (as, S', m) from h)
    obtain ⟨⟨bs, S2, m2⟩, h2, h⟩ := bind_ok h
    have h3 : (if (m2 && isTn (k, d)) = true then .stuck else .ok ((k, d) :: bs, S2, m1 || m2) : R (List Vd × Sto × Bool)) = .ok (as, S', m) := h
    by_cases q : (m2 && isTn (k, d)) = true
    · rw [if_pos q] at h3; cases h3
    · rw [if_neg q] at h3; cases h3
      rw [List.length_cons, List.length_cons, evs_len h2]
theorem run_ar {f : Nat} {fi : FnI} (hf : P.fns[f]? = some fi) {xs : List (Bool × D)} {S : Sto} (h : run P n f xs S ≠ .stuck) : xs.length ≤ fi.np ∧ fi.np - xs.length ≤ fi.dfl.length := by
  cases n with
  | zero => exact absurd rfl h
  | succ n =>
    unfold run at h
    simp only [hf] at h
    by_cases hh : fi.hot = true
    · rw [if_pos hh] at h; exact absurd rfl h
    rw [if_neg hh] at h
    split at h
    · rename_i e
      simp only [List.length_append, List.length_map, List.length_drop] at e
      omega
    · exact absurd rfl h
/-- a call in the same region, its arguments found -/
theorem doI {f : Nat} {fi : FnI} (hf : P.fns[f]? = some fi) {as : List Vd} {dvs : List V} {m : Bool} (gr : Gr T0 g S H g1 S1 H1) (R1 : Rg W g1 S1 H1) (rk : RKs W g1 S1 H1 as vs fp) (fr : Fre g1 S1 (fun a => H a = none ∨ OwnU g S a) fp)
    (ha : as.length ≤ fi.np) (hb : fi.np - as.length ≤ fi.dfl.length) (hd : ∀ ρ G, RvL W ρ G (fi.dfl.drop (fi.dfl.length - (fi.np - as.length))) dvs)
    (h : EvP W wx σ g S H ((ofO (argsI as)).bind fun xs => callI (gamW W P n) f xs S1) Q) : spZ W (run P n f) fi.np (vs ++ dvs) H1 Q (WE wx σ) := by
  cases e : argsI as with
  | none => rw [e] at h; exact h.elim
  | some xs =>
    rw [e] at h
    obtain ⟨g2, R2, gr2, ar, _, _⟩ := argsI_rk R1 rk fr.nd (fre_T fr) e
    have hl : xs.length = as.length := by rw [← ar.length, RKs.length rk]
    obtain ⟨r1, r2⟩ := run_dfl (n := n) hf xs S1 (by rw [hl]; exact ha) (by rw [hl]; exact hb)
    have ar2 := ar.append (ArgsR.dfl (hd g2.r g2.F))
    rw [← hl] at ar2
    refine callI_sp (fn := 0) (by rw [ar2.length]; exact r2) gr R1 fr gr2 R2 ar2 ?_
    have h' : EvP W wx σ g S H ((run P n f xs S1).bind fun (k, d, S') => match asVal (k, d) with | some _ => .ok (k, d, S', true) | none => .stuck) Q := h
    rw [r1] at h'
    exact h'
theorem doP {f : Nat} {fi : FnI} (hf : P.fns[f]? = some fi) {as : List Vd} {dvs : List V} {m : Bool} (gr : Gr T0 g S H g1 S1 H1) (hm : m = false → S1 = S ∧ Ex H H1) (R1 : Rg W g1 S1 H1) (rk : RKs W g1 S1 H1 as vs fp) (fr : Fre g1 S1 (fun a => H a = none ∨ OwnU g S a) fp)
    (ha : as.length ≤ fi.np) (hb : fi.np - as.length ≤ fi.dfl.length) (hd : ∀ ρ G, RvL W ρ G (fi.dfl.drop (fi.dfl.length - (fi.np - as.length))) dvs)
    (h : EvP W wx σ g S H (callP (gamW W P n) f (as.map (argP S1)) S1 m) Q) : spZ W (run P n f) fi.np (vs ++ dvs) H1 Q (WE wx σ) := by
  unfold callP at h
  by_cases nb : (as.map (argP S1)).all (fun a => a.2.noBx) = true
  · rw [if_pos nb] at h
    obtain ⟨g2, R2, gr2, ar, _, _⟩ := argsP_rk R1 rk fr.nd (fre_T fr) nb
    have hl : (as.map (argP S1)).length = as.length := List.length_map _
    obtain ⟨r1, r2⟩ := run_dfl (n := n) hf (as.map (argP S1)) [] (by rw [hl]; exact ha) (by rw [hl]; exact hb)
    have ar2 := ar.append (ArgsR.dfl (g := g2.own H1) (hd (g2.own H1).r (g2.own H1).F))
    rw [← hl] at ar2
    refine callP_sp (by rw [ar2.length]; exact r2) gr hm R1 fr gr2 R2 ar2 ?_
    have h' : EvP W wx σ g S H (match run P n f (as.map (argP S1)) [] with
      | .ok r => (outP r).bind fun (k, d) => .ok (k, d, S1, m)
      | .exc c _ => .exc c S1
      | .stuck => .stuck) Q := h
    rw [r1] at h'
    exact h'
  · rw [if_neg nb] at h; exact h.elim
theorem case_call {p : Bool} {f : Nat} {es : List E} (ihs : EvsS W t P F n es) : EvS W t P F n (.call p f es) := fun {X l wx} C {x} hm {env S g H σ Q} R eo h => by
  cases x <;> first
    | (cases hm; done)
    | skip
  rename_i fx as ks pos
  cases fx <;> first
    | (cases hm; done)
    | skip
  rename_i y py
  cases ks <;> first
    | (cases hm; done)
    | skip
  have hm0 : (!l.hot && fnB t P f y as.length && gloB l y && as.all plainE && mEs t P l es as) = true := hm
  simp only [Bool.and_eq_true, Bool.not_eq_true'] at hm0
  obtain ⟨⟨⟨⟨hc, m1⟩, m2⟩, m3⟩, m4⟩ := hm0
  obtain ⟨q1, q2⟩ := Bool.and_eq_true_iff.mp m1
  obtain ⟨q1, q3⟩ := Bool.and_eq_true_iff.mp q1
  have q1 := of_decide_eq_true q1
  cases hf : P.fns[f]? with
  | none => rw [hf] at q2; cases q2
  | some fi =>
    rw [hf] at q2
    obtain ⟨q4, q5⟩ := Bool.and_eq_true_iff.mp (show (decide (as.length ≤ fi.np) && decide (fi.np - as.length ≤ fi.dfl.length)) = true from q2)
    have q4 := of_decide_eq_true q4
    have q5 := of_decide_eq_true q5
    obtain ⟨ds, dvs, b1, b2, b3⟩ := C.bnd f fi hf (fi.np - as.length) q5
    obtain ⟨z1, z2⟩ := C.mgf f y q1
    refine uE_of (pe_fnSD m3 (C.ok hc f fi hf) ((C.room hc).mono (by omega)) (glo_of C.toFt m2) z1 z2 b1 b2 (fun σ => passAt C.tk σ) (okNm_of q3).1) ?_
    refine ihs C m4 R eo ?_
    have h' : EvP W wx σ g S H ((evs (gamW W P n) es env S).bind fun (as, S1, m) => if p then callP (gamW W P n) f (as.map (argP S1)) S1 m else (ofO (argsI as)).bind fun xs => callI (gamW W P n) f xs S1) Q := h
    cases e1 : evs (gamW W P n) es env S with
    | stuck => rw [e1] at h'; exact h'.elim
    | exc c S1 => rw [e1] at h'; exact h'
    | ok r =>
      obtain ⟨vs0, S1, m⟩ := r
      rw [e1] at h'
      have hl : vs0.length = as.length := by rw [evs_len e1, mEs_len m4]
      intro g1 H1 vs fp R1 gr1 hm1 rk1 fr1
      rw [← hl] at q4 q5 b3
      cases p with
      | true => exact doP hf gr1 hm1 R1 rk1 fr1 q4 q5 b3 h'
      | false => exact doI (m := m) hf gr1 R1 rk1 fr1 q4 q5 b3 h'
theorem argsI_len : ∀ {as : List Vd} {xs : List (Bool × D)}, argsI as = some xs → xs.length = as.length
  | [], _, e => by cases e; rfl
  | a :: as, xs, e => by
    obtain ⟨x, e1, e⟩ := Option.bind_eq_some_iff.mp (show (argI a).bind (fun x => (argsI as).map fun xs => x :: xs) = some xs from e)
    obtain ⟨ys, e2, e3⟩ := Option.map_eq_some_iff.mp e
    subst e3
    rw [List.length_cons, List.length_cons, argsI_len e2]
theorem methOf_some {cs : List ClsI} {c : Nat} {me : Str} {f : Nat} (h : methOf cs c me = some f) : ∃ ci, cs[c]? = some ci ∧ ci.meths.lookup me = some f := Option.bind_eq_some_iff.mp h
theorem case_meth {p : Bool} {me : Str} {o : E} {es : List E} (iho : EvS W t P F n o) (ihs : EvsS W t P F n es) : EvS W t P F n (.meth p me o es) := fun {X l wx} C {x} hm {env S g H σ Q} R eo h => by
  cases x <;> first
    | (cases hm; done)
    | skip
  rename_i fx as ks pos
  cases fx <;> first
    | (cases hm; done)
    | skip
  rename_i r y ap
  cases ks <;> first
    | (cases hm; done)
    | skip
  have hm' : (!l.hot && decide (y = me) && plainBase r && lineB ap pos && as.all plainE && decide (as.length < 20) && mE t P l o r && mEs t P l es as) = true := hm
  simp only [Bool.and_eq_true, decide_eq_true_eq, Bool.not_eq_true'] at hm'
  obtain ⟨⟨⟨⟨⟨⟨⟨hc, m1⟩, m2⟩, m3⟩, m4⟩, m5⟩, m6⟩, m7⟩ := hm'
  subst m1
  have h' : EvP W wx σ g S H ((ev (gamW W P n) o env S).nox.bind fun (k0, d0, S0, m0) => if m0 then .stuck else (ofO (der S (k0, d0))).bind fun (_, d) => match d with
      | .obj c fs _ => if (posOf fs y).isSome then .stuck else (ofO (methOf P.cls c y)).bind fun f => (evs (gamW W P n) es env S).bind fun (as, S1, m) => if m then .stuck else
        if p then callP (gamW W P n) f (((k0, d0) :: as).map (argP S)) S false
        else (ofO (argsI ((k0, d0) :: as))).bind fun xs => callI (gamW W P n) f xs S
      | _ => .stuck) Q := h
  cases e0 : ev (gamW W P n) o env S with
  | stuck => rw [e0] at h'; exact h'.elim
  | exc c S1 => rw [e0] at h'; exact h'.elim
  | ok r0 =>
    obtain ⟨k0, d0, S0, m0⟩ := r0
    rw [e0] at h'
    cases m0 with
    | true => exact h'.elim
    | false =>
      have h2 : EvP W wx σ g S H ((ofO (der S (k0, d0))).bind fun (_, d) => match d with
        | .obj c fs _ => if (posOf fs y).isSome then .stuck else (ofO (methOf P.cls c y)).bind fun f => (evs (gamW W P n) es env S).bind fun (as, S1, m) => if m then .stuck else
          if p then callP (gamW W P n) f (((k0, d0) :: as).map (argP S)) S false
          else (ofO (argsI ((k0, d0) :: as))).bind fun xs => callI (gamW W P n) f xs S
        | _ => .stuck) Q := h'
      cases e1 : der S (k0, d0) with
      | none => rw [e1] at h2; exact h2.elim
      | some kd =>
        obtain ⟨k1, d1⟩ := kd
        rw [e1] at h2
        cases d1 <;> first
          | (exact h2.elim; done)
          | skip
        rename_i c fs xs0
        have h3 : EvP W wx σ g S H (if (posOf fs y).isSome = true then .stuck else (ofO (methOf P.cls c y)).bind fun f => (evs (gamW W P n) es env S).bind fun (as, S1, m) => if m then .stuck else
          if p then callP (gamW W P n) f (((k0, d0) :: as).map (argP S)) S false
          else (ofO (argsI ((k0, d0) :: as))).bind fun xs => callI (gamW W P n) f xs S) Q := h2
        by_cases q : (posOf fs y).isSome = true
        · rw [if_pos q] at h3; exact h3.elim
        · rw [if_neg q] at h3
          cases e2 : methOf P.cls c y with
          | none => rw [e2] at h3; exact h3.elim
          | some f =>
            rw [e2] at h3
            obtain ⟨ci, i1, i2⟩ := methOf_some e2
            obtain ⟨M, fi, hf⟩ := C.mth c ci y f i1 i2
            have h4 : EvP W wx σ g S H ((evs (gamW W P n) es env S).bind fun (as, S1, m) => if m then .stuck else
              if p then callP (gamW W P n) f (((k0, d0) :: as).map (argP S)) S false
              else (ofO (argsI ((k0, d0) :: as))).bind fun xs => callI (gamW W P n) f xs S) Q := h3
            -- how many defaults
            have ar : ∃ j, j ≤ fi.dfl.length ∧ ∀ as S1 m, evs (gamW W P n) es env S = .ok (as, S1, m) → ((k0, d0) :: as).length ≤ fi.np ∧ fi.np - ((k0, d0) :: as).length ≤ fi.dfl.length ∧ j = fi.np - ((k0, d0) :: as).length := by
              cases e3 : evs (gamW W P n) es env S with
              | stuck => exact ⟨0, Nat.zero_le _, fun _ _ _ z => by cases z⟩
              | exc c S1 => exact ⟨0, Nat.zero_le _, fun _ _ _ z => by cases z⟩
              | ok r =>
                obtain ⟨as0, S1, m⟩ := r
                rw [e3] at h4
                have h5 : EvP W wx σ g S H (if m = true then .stuck else
                  if p = true then callP (gamW W P n) f (((k0, d0) :: as0).map (argP S)) S false
                  else (ofO (argsI ((k0, d0) :: as0))).bind fun xs => callI (gamW W P n) f xs S) Q := h4
                have key : ∃ ys S', run P n f ys S' ≠ .stuck ∧ ys.length = ((k0, d0) :: as0).length := by
                  cases m with
                  | true => exact h5.elim
                  | false =>
                    cases p with
                    | true =>
                      have h6 : EvP W wx σ g S H (callP (gamW W P n) f (((k0, d0) :: as0).map (argP S)) S false) Q := h5
                      unfold callP at h6
                      split at h6
                      · refine ⟨((k0, d0) :: as0).map (argP S), [], fun z => ?_, List.length_map _⟩
                        have z' : (gamW W P n).call f (((k0, d0) :: as0).map (argP S)) [] = .stuck := z
                        rw [z'] at h6
                        exact h6
                      · exact h6.elim
                    | false =>
                      have h6 : EvP W wx σ g S H ((ofO (argsI ((k0, d0) :: as0))).bind fun xs => callI (gamW W P n) f xs S) Q := h5
                      cases e7 : argsI ((k0, d0) :: as0) with
                      | none => rw [e7] at h6; exact h6.elim
                      | some ys =>
                        rw [e7] at h6
                        have h7 : EvP W wx σ g S H (callI (gamW W P n) f ys S) Q := h6
                        refine ⟨ys, S, fun z => ?_, argsI_len e7⟩
                        unfold callI at h7
                        have z' : (gamW W P n).call f ys S = .stuck := z
                        rw [z'] at h7
                        exact h7
                obtain ⟨ys, S', k1, k2⟩ := key
                obtain ⟨k3, k4⟩ := run_ar hf k1
                rw [k2] at k3 k4
                exact ⟨_, k4, fun as S2 m2 z => by cases z; exact ⟨k3, k4, rfl⟩⟩
            obtain ⟨j, hj, ar⟩ := ar
            obtain ⟨ds, dvs, b1, b2, b3⟩ := C.bnd f fi hf j hj
            refine uE_of (pe_methSD m4 pe_u (C.cls c ci i1) M (C.ok hc f fi hf) ((C.room hc).mono (by omega)) b1 b2 (fun σ => passAt C.tk σ) (base_plain m2) m5 m3) ?_
            refine iho C m6 R eo ?_
            rw [e0]
            intro g1 H1 v fp R1 gr1 hm1 rk1 fr1
            obtain ⟨es1, ex1⟩ := hm1 rfl
            subst es1
            have rd := (rk1.der R1 e1).read R1
            obtain ⟨a, dx, lf, w1, w2, w3, w4⟩ := rd
            refine ⟨a, dx, lf, w1, w2, by rw [pos_lookup, w3, Option.not_isSome_iff_eq_none.mp q]; rfl, ihs C m7 R1 (eo.mono gr1) ?_⟩
            cases e3 : evs (gamW W P n) es env S0 with
            | stuck => rw [e3] at h4; exact h4.elim
            | exc c S1 => rw [e3] at h4; exact ExcOk.from (c := c) gr1 h4
            | ok r =>
              obtain ⟨as0, S1, m⟩ := r
              rw [e3] at h4
              have h5 : EvP W wx σ g S0 H (if m = true then .stuck else
                if p = true then callP (gamW W P n) f (((k0, d0) :: as0).map (argP S0)) S0 false
                else (ofO (argsI ((k0, d0) :: as0))).bind fun xs => callI (gamW W P n) f xs S0) Q := h4
              obtain ⟨a1, a2, a3⟩ := ar as0 S1 m e3
              subst a3
              cases m with
              | true => exact h5.elim
              | false =>
                intro g2 H2 vs fp2 R2 gr2 hm2 rk2 fr2
                obtain ⟨es2, ex2⟩ := hm2 rfl
                subst es2
                obtain ⟨rk1', fr1'⟩ := cons_keep (m := false) gr2 rk1 fr1 rfl hm2
                have RK2 : RKs W g2 S1 H2 ((k0, d0) :: as0) (v :: vs) (fp ++ fp2) := ⟨v, vs, fp, fp2, rfl, rfl, rk1', rk2⟩
                have FR2 := fre_app gr1 (fun b hb => rk1.there b hb) fr1 fr2 fr1' (fun a z => new_back gr1 z)
                cases p with
                | true => exact doP (m := false) (vs := v :: vs) hf (gr1.trans0 gr2) (fun _ => ⟨rfl, ex1.trans ex2⟩) R2 RK2 FR2 a1 a2 b3 h5
                | false => exact doI (m := false) (vs := v :: vs) hf (gr1.trans0 gr2) R2 RK2 FR2 a1 a2 b3 h5
end
end Z

namespace Z
open PySem L2 PySem.Spec PyProof.Rows
section
variable {W : Wr} {t : Tb} {P : Pg} {F : Fns} {n : Nat} {l : Lc} {wx : WX} {g g' g1 g2 : Gh} {S S' S1 S2 : Sto} {H H' H1 H2 : Hp} {X : Cx} {v u : V} {vs : List V} {f f1 f2 fp : List Addr} {Q : VK} {σ : L2.St} {env : EnvD} {k : Kd} {d : D}
theorem opIsN_non {d : D} (h : opIsN d = true) : d = .non := by
  cases d <;> first
    | rfl
    | cases h
theorem ArgsR.mono {T : Addr → Prop} (h : Gr T g S H g' S' H') : ∀ {xs : List (Bool × D)} {vs : List V}, ArgsR W g xs vs → ArgsR W g' xs vs
  | [], _, q => q
  | _ :: _, _, ⟨v, ws, h1, h2, h3⟩ => ⟨v, ws, h1, Rv.mono (Gh.G_ex h _) h.r h2, ArgsR.mono h h3⟩
theorem case_mk {bxd ln : Bool} {c dp : Nat} {es : List E} (ihs : EvsS W t P F n es) : EvS W t P F n (.mk bxd c dp ln es) := fun {X l wx} C {x} hm {env S g H σ Q} R eo h => by
  cases x <;> first
    | (cases hm; done)
    | skip
  rename_i fx as ks pos
  cases fx <;> first
    | (cases hm; done)
    | skip
  rename_i y py
  cases ks <;> first
    | (cases hm; done)
    | skip
  have hm' : (!l.hot && decide (t.cls[c]? = some y) && okNm y && gloB l y && as.all plainE && mEs t P l es as) = true := hm
  simp only [Bool.and_eq_true, decide_eq_true_eq, Bool.not_eq_true'] at hm'
  obtain ⟨⟨⟨⟨⟨hc, m1⟩, m2⟩, m3⟩, m4⟩, m5⟩ := hm'
  obtain ⟨z1, z2⟩ := C.mkc c y m1
  have h' : EvP W wx σ g S H ((ofO (methOf P.cls c "__init__")).bind fun f => (evs (gamW W P n) es env S).bind fun (as, S1, _) => (ofO (argsI as)).bind fun xs =>
      (run P n f ((false, .bx S1.length) :: xs) (S1 ++ [some ⟨dp + 1, ln, false, .obj c [] []⟩])).bind fun (_, d0, S2) => if !opIsN d0 then .stuck else if bxd then .ok (.vl false, .bx S1.length, S2, true)
        else match S2[S1.length]? with
        | some (some b) => if b.lk then .stuck else .ok (.fr b.dp b.ln, b.d, S2.set S1.length none, true)
        | _ => .stuck) Q := h
  cases e0 : methOf P.cls c "__init__" with
  | none => rw [e0] at h'; exact h'.elim
  | some f =>
    rw [e0] at h'
    obtain ⟨ci, i1, i2⟩ := methOf_some e0
    obtain ⟨M0, fi, hf⟩ := C.mth c ci _ f i1 i2
    have M := z2 ci f i1 i2
    have h2 : EvP W wx σ g S H ((evs (gamW W P n) es env S).bind fun (as, S1, _) => (ofO (argsI as)).bind fun xs =>
      (run P n f ((false, .bx S1.length) :: xs) (S1 ++ [some ⟨dp + 1, ln, false, .obj c [] []⟩])).bind fun (_, d0, S2) => if !opIsN d0 then .stuck else if bxd then .ok (.vl false, .bx S1.length, S2, true)
        else match S2[S1.length]? with
        | some (some b) => if b.lk then .stuck else .ok (.fr b.dp b.ln, b.d, S2.set S1.length none, true)
        | _ => .stuck) Q := h'
    have ar : ∃ j, j ≤ fi.dfl.length ∧ ∀ as S1 m, evs (gamW W P n) es env S = .ok (as, S1, m) → as.length + 1 ≤ fi.np ∧ fi.np - (as.length + 1) ≤ fi.dfl.length ∧ j = fi.np - (as.length + 1) := by
      cases e3 : evs (gamW W P n) es env S with
      | stuck => exact ⟨0, Nat.zero_le _, fun _ _ _ z => by cases z⟩
      | exc c S1 => exact ⟨0, Nat.zero_le _, fun _ _ _ z => by cases z⟩
      | ok r =>
        obtain ⟨as0, S1, m⟩ := r
        rw [e3] at h2
        have h5 : EvP W wx σ g S H ((ofO (argsI as0)).bind fun xs =>
          (run P n f ((false, .bx S1.length) :: xs) (S1 ++ [some ⟨dp + 1, ln, false, .obj c [] []⟩])).bind fun (_, d0, S2) => if !opIsN d0 then .stuck else if bxd then .ok (.vl false, .bx S1.length, S2, true)
            else match S2[S1.length]? with
            | some (some b) => if b.lk then .stuck else .ok (.fr b.dp b.ln, b.d, S2.set S1.length none, true)
            | _ => .stuck) Q := h2
        cases e7 : argsI as0 with
        | none => rw [e7] at h5; exact h5.elim
        | some ys =>
          rw [e7] at h5
          have k1 : run P n f ((false, .bx S1.length) :: ys) (S1 ++ [some ⟨dp + 1, ln, false, .obj c [] []⟩]) ≠ .stuck := fun z => by
            have h6 : EvP W wx σ g S H ((run P n f ((false, .bx S1.length) :: ys) (S1 ++ [some ⟨dp + 1, ln, false, .obj c [] []⟩])).bind fun (_, d0, S2) => if !opIsN d0 then .stuck else if bxd then .ok (.vl false, .bx S1.length, S2, true)
              else match S2[S1.length]? with
              | some (some b) => if b.lk then .stuck else .ok (.fr b.dp b.ln, b.d, S2.set S1.length none, true)
              | _ => .stuck) Q := h5
            rw [z] at h6
            exact h6
          obtain ⟨k3, k4⟩ := run_ar hf k1
          rw [List.length_cons, argsI_len e7] at k3 k4
          exact ⟨_, k4, fun as S2 m2 z => by cases z; exact ⟨k3, k4, rfl⟩⟩
    obtain ⟨j, hj, ar⟩ := ar
    obtain ⟨ds, dvs, b1, b2, b3⟩ := C.bnd f fi hf j hj
    refine uE_of (pe_makeSD m4 M (C.ok hc f fi hf) (C.room hc) (glo_of C.toFt m3) z1 b1 b2 (fun σ => passAt C.tk σ) (okNm_of m2).1) ?_
    refine ihs C m5 R eo ?_
    cases e3 : evs (gamW W P n) es env S with
    | stuck => rw [e3] at h2; exact h2.elim
    | exc c S1 => rw [e3] at h2; exact h2
    | ok r =>
      obtain ⟨as0, S1, m⟩ := r
      rw [e3] at h2
      obtain ⟨a1, a2, a3⟩ := ar as0 S1 m e3
      subst a3
      intro g1 H1 vs fp R1 gr1 hm1 rk1 fr1 xa dx hx hdx ne
      have h5 : EvP W wx σ g S H ((ofO (argsI as0)).bind fun xs =>
          (run P n f ((false, .bx S1.length) :: xs) (S1 ++ [some ⟨dp + 1, ln, false, .obj c [] []⟩])).bind fun (_, d0, S2) => if !opIsN d0 then .stuck else if bxd then .ok (.vl false, .bx S1.length, S2, true)
            else match S2[S1.length]? with
            | some (some b) => if b.lk then .stuck else .ok (.fr b.dp b.ln, b.d, S2.set S1.length none, true)
            | _ => .stuck) Q := h2
      cases e7 : argsI as0 with
      | none => rw [e7] at h5; exact h5.elim
      | some ys =>
        rw [e7] at h5
        obtain ⟨g2, R2, gr2, ar2, _, _⟩ := argsI_rk R1 rk1 fr1.nd (fre_T fr1) e7
        obtain ⟨R3, gr3⟩ := R2.new (o := .own xa) hdx trivial
        have hx3 : upd H1 dx (.own xa) xa = none := by rw [upd_ne (Ne.symm ne)]; exact hx
        obtain ⟨R4, gr4⟩ := R3.new (o := .ins (W.cl c) dx []) hx3 trivial
        have lx : g2.L xa = none := by
          cases q : g2.L xa with
          | none => rfl
          | some o => rw [R2.lh xa o q] at hx; cases hx
        have ox : ¬ Own g2 S1 xa := fun ⟨m, b, q, hq⟩ => by
          obtain ⟨o, ho⟩ := R2.box_there q xa hq
          rw [hx] at ho; cases ho
        obtain ⟨R5, gr5⟩ := R4.boxN (b := ⟨dp + 1, ln, false, .obj c [] []⟩) (a := xa) (f := [xa]) ⟨xa, dx, [], [], rfl, rfl, upd_same, rfl, rfl, rfl⟩ (by simp) (fun a ha => by
          have : a = xa := by simpa using ha
          subst this; exact ⟨lx, ox⟩) rfl
        have G2 : Gr T0 g S H g2 S1 H1 := gr1.trans1 fr1 gr2
        have G4 : Gr T0 g S H g2 S1 (upd (upd H1 dx (.own xa)) xa (.ins (W.cl c) dx [])) := (G2.trans0 gr3).trans0 gr4
        have G5 := (G4.trans gr5).imp (T2 := T0) fun a z => z.elim False.elim fun z => by
          have : a = xa := by simpa using z
          subst this
          rcases G2.none_back hx with q | q | q
          · exact .inl q
          · exact .inr (.inl q)
          · exact q.elim
        have ar5 : ArgsR W (g2.box S1.length xa [xa]) ys vs := ArgsR.mono (gr3.trans0 (gr4) |>.trans gr5) ar2
        have hyl : ys.length = as0.length := argsI_len e7
        obtain ⟨r1, r2⟩ := run_dfl (n := n) hf ((false, .bx S1.length) :: ys) (S1 ++ [some ⟨dp + 1, ln, false, .obj c [] []⟩]) (by rw [List.length_cons, hyl]; exact a1) (by rw [List.length_cons, hyl]; exact a2)
        have ar6 : ArgsR W (g2.box S1.length xa [xa]) (((false, .bx S1.length) :: ys) ++ (fi.dfl.drop (fi.dfl.length - (fi.np - (as0.length + 1)))).map fun d => (false, d)) (.ref xa :: (vs ++ dvs)) :=
          ⟨.ref xa, _, rfl, ⟨xa, if_pos rfl, rfl⟩, ar5.append (ArgsR.dfl (b3 _ _))⟩
        rw [List.length_cons, hyl] at r1 r2
        refine ⟨by rw [ar6.length]; exact r2, _, _, _, R5, ar6, ?_⟩
        have h6 : EvP W wx σ g S H ((run P n f ((false, .bx S1.length) :: ys) (S1 ++ [some ⟨dp + 1, ln, false, .obj c [] []⟩])).bind fun (_, d0, S2) => if !opIsN d0 then .stuck else if bxd then .ok (.vl false, .bx S1.length, S2, true)
          else match S2[S1.length]? with
          | some (some b) => if b.lk then .stuck else .ok (.fr b.dp b.ln, b.d, S2.set S1.length none, true)
          | _ => .stuck) Q := h5
        rw [r1] at h6
        cases e8 : run P n f (((false, .bx S1.length) :: ys) ++ (fi.dfl.drop (fi.dfl.length - (fi.np - (as0.length + 1)))).map fun d => (false, d)) (S1 ++ [some ⟨dp + 1, ln, false, .obj c [] []⟩]) with
        | stuck => rw [e8] at h6; exact h6
        | exc c' S2 => rw [e8] at h6; exact ExcOk.from (c := c') G5 h6
        | ok r =>
          obtain ⟨k2, d0, S2⟩ := r
          rw [e8] at h6
          have h7 : EvP W wx σ g S H (if (!opIsN d0) = true then .stuck else if bxd = true then .ok (.vl false, .bx S1.length, S2, true)
            else match S2[S1.length]? with
            | some (some b) => if b.lk then .stuck else .ok (.fr b.dp b.ln, b.d, S2.set S1.length none, true)
            | _ => .stuck) Q := h6
          by_cases q : (!opIsN d0) = true
          · rw [if_pos q] at h7; exact h7.elim
          · rw [if_neg q] at h7
            have dn := opIsN_non (d := d0) (by simpa using q)
            subst dn
            intro g' H' w fpw R' gr' rkw frw
            refine ⟨rk_non R' rkw, ?_⟩
            have hr : g'.r S1.length = some xa := gr'.r _ _ (if_pos rfl)
            have G' := G5.trans0 gr'
            cases bxd with
            | true => exact h7 g' H' (.ref xa) [] R' G' (fun z => by cases z) ⟨rfl, xa, hr, rfl⟩ Fre.nil
            | false =>
              have h8 : EvP W wx σ g S H (match S2[S1.length]? with
                | some (some b) => if b.lk then .stuck else .ok (.fr b.dp b.ln, b.d, S2.set S1.length none, true)
                | _ => .stuck) Q := h7
              cases e9 : S2[S1.length]? with
              | none => rw [e9] at h8; exact h8.elim
              | some o => cases o with
                | none => rw [e9] at h8; exact h8.elim
                | some b =>
                  rw [e9] at h8
                  have h9 : EvP W wx σ g S H (if b.lk = true then .stuck else .ok (.fr b.dp b.ln, b.d, S2.set S1.length none, true)) Q := h8
                  by_cases q2 : b.lk = true
                  · rw [if_pos q2] at h9; exact h9.elim
                  · rw [if_neg q2] at h9
                    have lv : Live S2 S1.length b := e9
                    obtain ⟨R6, gr6, cl⟩ := R'.boxOut lv (by simpa using q2)
                    obtain ⟨a', e10, rt⟩ := R'.box _ b lv
                    rw [hr] at e10; cases e10
                    exact h9 g' H' (.ref xa) (g'.fp S1.length) R6 (G'.trans0 gr6) (fun z => by cases z) rt ⟨R'.nd _ b lv, fun z hz => ⟨(cl z hz).1, (cl z hz).2.1, new_back G' (.inr (cl z hz).2.2)⟩⟩
def mutT : Mo → D → String
  | .pop1, .dK _ _ => "dict"
  | _, _ => "list"
theorem tyMut_ty {mo : Mo} {d : D} (e : tyMut mo d d = true) (hK : X.K = W.K) (rv : Rv W g.r H d v) : tyV X.K (mutT mo d) v H := by
  cases d <;> first
    | (exfalso; cases mo <;> (cases e; done))
    | skip
  · obtain ⟨c, vs, w1, w2, _⟩ := rv
    rw [w1]
    have : ∀ xs, mutT mo (D.lst xs) = "list" := fun xs => by cases mo <;> rfl
    rw [this]
    exact .inl ⟨rfl, vs, by rw [hK]; exact w2⟩
  · obtain ⟨c, kvs, w1, w2, _⟩ := rv
    rw [w1]
    cases mo <;> first
      | (exfalso; cases e; done)
      | exact .inr (.inr (.inl ⟨rfl, .inl ⟨kvs, w2⟩⟩))
theorem mut_form {mo : Mo} {y : Str} {as : List Expr} {r : Expr} {ap pos : Pos} {d : D} (e : tyMut mo d d = true) (hb : mutB mo y as.length = true) (hp : as.all plainE = true) (hba : plainBase r = true) (hl : (ap.endLine == pos.line) = true) :
    PE X (.Call (.Attribute r y ap) as [] pos) (fun σ H Q => uE X r σ H fun x H1 => tyV X.K (mutT mo d) x H1 ∧ uL X as σ H1 fun xs H2 => uM X (mutId mo d) x xs H2 Q) := by
  have few : ∀ {a : Expr} {as : List Expr}, (a :: as).all plainE = true → (a :: as).length < 20 → ((backTo pos (starEach (a :: as) X.env)).all (fun x => !x.1) && (backToKw pos (keywordEach [] X.env)).all (fun x => x.1.isSome)
      && decide ((a :: as).length + ([] : List Keyword).length + (if ([] : List Keyword).isEmpty then 0 else 1) < 30)) = true := fun {a as} h hn => by
    rw [star_all h]
    simp only [Bool.true_and, Bool.and_eq_true, decide_eq_true_eq]
    refine ⟨by rfl, ?_⟩
    show (a :: as).length + 0 + 0 < 30
    omega
  have many : ∀ {T id : String} {nm : Str}, PlainAttrs T → Slot T nm id → typeOf (.builtin id) = pure (.type "method_descriptor") → 0 < as.length → as.length < 20 →
      PE X (.Call (.Attribute r nm ap) as [] pos) (fun σ H Q => uE X r σ H fun x H1 => tyV X.K T x H1 ∧ uL X as σ H1 fun xs H2 => uM X id x xs H2 Q) := fun {T id nm} pa sl ty h0 h20 => by
    cases as with
    | nil => exact absurd h0 (Nat.lt_irrefl _)
    | cons a as =>
      obtain ⟨hp1, hp2⟩ := Bool.and_eq_true_iff.mp (show (plainE a && as.all plainE) = true from hp)
      exact pe_bm pa sl ty uM_ok pe_u (pa_u hp) (base_plain hba) (few hp h20) hl (star_cons hp1) (star_any hp2)
  have none' : ∀ {T id : String} {nm : Str}, PlainAttrs T → Slot T nm id → typeOf (.builtin id) = pure (.type "method_descriptor") → as.length = 0 →
      PE X (.Call (.Attribute r nm ap) as [] pos) (fun σ H Q => uE X r σ H fun x H1 => tyV X.K T x H1 ∧ uL X as σ H1 fun xs H2 => uM X id x xs H2 Q) := fun {T id nm} pa sl ty h0 => by
    cases as with
    | nil => exact pe_bm0 pa sl ty uM_ok pe_u (base_plain hba) hl
    | cons a as => cases h0
  cases d <;> first
    | (exfalso; cases mo <;> (cases e; done))
    | skip
  · cases mo
    all_goals
      obtain ⟨e1, e2⟩ := Bool.and_eq_true_iff.mp hb
      have e1 := of_decide_eq_true e1
      have e2 := beq_iff_eq.mp e2
      subst e1
    · exact many PySem.F.plainAttrs_list PySem.F.slot_list_append PySem.F.type_list_append (by omega) (by omega)
    · exact many PySem.F.plainAttrs_list PySem.F.slot_list_extend PySem.F.type_list_extend (by omega) (by omega)
    · exact none' PySem.F.plainAttrs_list PySem.F.slot_list_pop PySem.F.type_list_pop e2
    · exact many PySem.F.plainAttrs_list PySem.F.slot_list_pop PySem.F.type_list_pop (by omega) (by omega)
    · exact many PySem.F.plainAttrs_list PySem.F.slot_list_insert PySem.F.type_list_insert (by omega) (by omega)
    · exact many PySem.F.plainAttrs_list PySem.F.slot_list_remove PySem.F.type_list_remove (by omega) (by omega)
    · exact none' PySem.F.plainAttrs_list PySem.F.slot_list_reverse PySem.F.type_list_reverse e2
    · exact none' PySem.F.plainAttrs_list PySem.F.slot_list_clear PySem.F.type_list_clear e2
  · cases mo <;> first
      | (exfalso; cases e; done)
      | skip
    obtain ⟨e1, e2⟩ := Bool.and_eq_true_iff.mp hb
    have e1 := of_decide_eq_true e1
    have e2 := beq_iff_eq.mp e2
    subst e1
    exact many PySem.F.plainAttrs_dict PySem.F.slot_dict_pop PySem.F.type_dict_pop (by omega) (by omega)
theorem tyMut_id {mo : Mo} {d0 d : D} (e : tyMut mo d0 d = true) : mutId mo d0 = mutId mo d := by
  unfold tyMut at e
  split at e
  · rfl
  · cases mo <;> rfl
  · cases e
theorem case_mut {mo : Mo} {o : E} {es : List E} (iho : EvS W t P F n o) (ihs : EvsS W t P F n es) : EvS W t P F n (.mut mo o es) := fun {X l wx} C {x} hm {env S g H σ Q} R eo h => by
  cases x <;> first
    | (cases hm; done)
    | skip
  rename_i fx as ks pos
  cases fx <;> first
    | (cases hm; done)
    | skip
  rename_i r y ap
  cases ks <;> first
    | (cases hm; done)
    | skip
  have hm' : (mutB mo y as.length && plainBase r && lineB ap pos && as.all plainE && mE t P l o r && mEs t P l es as) = true := hm
  simp only [Bool.and_eq_true] at hm'
  obtain ⟨⟨⟨⟨⟨m1, m2⟩, m3⟩, m4⟩, m6⟩, m7⟩ := hm'
  have h' : EvP W wx σ g S H ((ev (gamW W P n) o env S).nox.bind fun (k0, d0, S0, m0) => if m0 then .stuck else (ofO (place S (k0, d0))).bind fun (_, _, _, d00) => if !tyMut mo d00 d00 then .stuck else (evs (gamW W P n) es env S).bind fun (as, S1, m) =>
      (ofO (place S1 (k0, d0))).bind fun (n, p, b, d) => if (m && !p.isEmpty) || !tyMut mo d00 d then .stuck else
      (ofO ((derL S1 as).bind fun bs => mutv mo (b.dp - p.length - 1) b.ln d bs)).bind fun (d', k, r) => .ok (k, r, setB S1 n (pathSet b.d p d'), true)) Q := h
  cases e0 : ev (gamW W P n) o env S with
  | stuck => rw [e0] at h'; exact h'.elim
  | exc c S1 => rw [e0] at h'; exact h'.elim
  | ok r0 =>
    obtain ⟨k0, d0, S0, m0⟩ := r0
    rw [e0] at h'
    cases m0 with
    | true => exact h'.elim
    | false =>
      have h2 : EvP W wx σ g S H ((ofO (place S (k0, d0))).bind fun (_, _, _, d00) => if !tyMut mo d00 d00 then .stuck else (evs (gamW W P n) es env S).bind fun (as, S1, m) =>
        (ofO (place S1 (k0, d0))).bind fun (n, p, b, d) => if (m && !p.isEmpty) || !tyMut mo d00 d then .stuck else
        (ofO ((derL S1 as).bind fun bs => mutv mo (b.dp - p.length - 1) b.ln d bs)).bind fun (d', k, r) => .ok (k, r, setB S1 n (pathSet b.d p d'), true)) Q := h'
      cases e1 : place S (k0, d0) with
      | none => rw [e1] at h2; exact h2.elim
      | some pl =>
        obtain ⟨n0, p0, b0, d00⟩ := pl
        rw [e1] at h2
        have h3 : EvP W wx σ g S H (if (!tyMut mo d00 d00) = true then .stuck else (evs (gamW W P n) es env S).bind fun (as, S1, m) =>
          (ofO (place S1 (k0, d0))).bind fun (n, p, b, d) => if (m && !p.isEmpty) || !tyMut mo d00 d then .stuck else
          (ofO ((derL S1 as).bind fun bs => mutv mo (b.dp - p.length - 1) b.ln d bs)).bind fun (d', k, r) => .ok (k, r, setB S1 n (pathSet b.d p d'), true)) Q := h2
        by_cases q : (!tyMut mo d00 d00) = true
        · rw [if_pos q] at h3; exact h3.elim
        · rw [if_neg q] at h3
          have ty0 : tyMut mo d00 d00 = true := by simpa using q
          refine uE_of (mut_form ty0 m1 m4 m2 m3) ?_
          refine iho C m6 R eo ?_
          rw [e0]
          intro g1 H1 v fp R1 gr1 hm1 rk1 fr1
          obtain ⟨es1, ex1⟩ := hm1 rfl
          subst es1
          obtain ⟨c0, k1, lv0, lk0, hr0, pt0, _⟩ := place_rk R1 R1 Gr.refl rk1 (.inr ⟨rfl, Ex.refl _⟩) e1
          have rv0 : Rv W g1.r H1 d00 v := by
            obtain ⟨a', e10, rt⟩ := R1.box _ b0 lv0
            rw [hr0] at e10; cases e10
            exact Pt.read (R1.G_h _) rt pt0
          refine ⟨tyMut_ty ty0 C.K rv0, ihs C m7 R1 (eo.mono gr1) ?_⟩
          cases e3 : evs (gamW W P n) es env S0 with
          | stuck => rw [e3] at h3; exact h3.elim
          | exc c S1 => rw [e3] at h3; exact ExcOk.from (c := c) gr1 h3
          | ok rr =>
            obtain ⟨as0, S1, m⟩ := rr
            rw [e3] at h3
            have h4 : EvP W wx σ g S0 H ((ofO (place S1 (k0, d0))).bind fun (n, p, b, d) => if (m && !p.isEmpty) || !tyMut mo d00 d then .stuck else
              (ofO ((derL S1 as0).bind fun bs => mutv mo (b.dp - p.length - 1) b.ln d bs)).bind fun (d', k, r) => .ok (k, r, setB S1 n (pathSet b.d p d'), true)) Q := h3
            cases e4 : place S1 (k0, d0) with
            | none => rw [e4] at h4; exact h4.elim
            | some pl =>
              obtain ⟨nb, p, b, d⟩ := pl
              rw [e4] at h4
              have h5 : EvP W wx σ g S0 H (if ((m && !p.isEmpty) || !tyMut mo d00 d) = true then .stuck else
                (ofO ((derL S1 as0).bind fun bs => mutv mo (b.dp - p.length - 1) b.ln d bs)).bind fun (d', k, r) => .ok (k, r, setB S1 nb (pathSet b.d p d'), true)) Q := h4
              by_cases q2 : ((m && !p.isEmpty) || !tyMut mo d00 d) = true
              · rw [if_pos q2] at h5; exact h5.elim
              · rw [if_neg q2] at h5
                simp only [Bool.or_eq_true, Bool.and_eq_true, not_or, not_and, Bool.not_eq_true', Bool.not_eq_false] at q2
                obtain ⟨q3, q4⟩ := q2
                intro g2 H2 vs fp2 R2 gr2 hm2 rk2 fr2
                have hp : p = [] ∨ (S1 = S0 ∧ Ex H1 H2) := by
                  cases m with
                  | true => exact .inl (List.isEmpty_iff.mp (q3 rfl))
                  | false => exact .inr (hm2 rfl)
                obtain ⟨c1, k2, lv, lk, hr, pt, hd⟩ := place_rk R1 R2 gr2 rk1 hp e4
                have hk : b.dp - p.length - 1 = k2 := by omega
                rw [hk] at h5
                rw [tyMut_id q4]
                cases e5 : derL S1 as0 with
                | none => rw [e5] at h5; exact h5.elim
                | some bs =>
                  rw [e5] at h5
                  have h6 : EvP W wx σ g S0 H ((ofO (mutv mo k2 b.ln d bs)).bind fun (d', k, r) => .ok (k, r, setB S1 nb (pathSet b.d p d'), true)) Q := h5
                  cases e6 : mutv mo k2 b.ln d bs with
                  | none => rw [e6] at h6; exact h6.elim
                  | some res =>
                    obtain ⟨d', kr, dr⟩ := res
                    rw [e6] at h6
                    have G2 := gr1.trans0 gr2
                    refine mutv_ok C.K R2 lv lk hr pt (rk2.der R2 e5) fr2 e6 fun g' H' w fpw R' gr' rk' fr' => ?_
                    have gr'' : Gr T0 g1 S0 H1 g' (setB S1 nb (pathSet b.d p d')) H' := gr2.trans1 fr2 gr'
                    refine h6 g' H' w fpw R' (gr1.trans0 gr'') (fun z => by cases z) rk' (fr'.imp fun a _ z => ?_)
                    rcases z with z | z | z
                    · exact new_back gr1 (fr2.fr a z).2.2
                    · exact new_back G2 (.inl z)
                    · exact new_back G2 (.inr z)
end
end Z

namespace Z
open PySem L2 PySem.Spec PyProof.Rows
section
variable {W : Wr} {t : Tb} {P : Pg} {F : Fns} {n : Nat} {l : Lc} {wx : WX} {g g' g1 g2 : Gh} {S S' S1 S2 : Sto} {H H' H1 H2 : Hp} {X : Cx} {v u : V} {vs : List V} {f f1 f2 fp : List Addr} {Q : VK} {σ : L2.St} {env : EnvD} {k : Kd} {d : D}
theorem PoR.mono0 {m m0 : Bool} (gr : Gr T0 g S H g1 S1 H1) (hm : m0 = false → S1 = S ∧ Ex H H1) (h : PoR W g S H k d S2 (m0 || m) Q) : PoR W g1 S1 H1 k d S2 m Q := fun g' H' v fp R' gr' hm' rk fr => h g' H' v fp R' (gr.trans0 gr') (fun z => by
  obtain ⟨z1, z2⟩ := Bool.or_eq_false_iff.mp z
  obtain ⟨a1, a2⟩ := hm z1
  obtain ⟨a3, a4⟩ := hm' z2
  exact ⟨a3.trans a1, a2.trans a4⟩) rk (fr.imp fun a _ z => new_back gr z)
theorem case_and {a b : E} (iha : EvS W t P F n a) (ihb : EvS W t P F n b) : EvS W t P F n (.and' a b) := fun {X l wx} C {x} hm {env S g H σ Q} R eo h => by
  cases x <;> first
    | (cases hm; done)
    | skip
  rename_i op xs pos
  cases op <;> first
    | (cases hm; done)
    | skip
  rcases xs with _ | ⟨x, _ | ⟨y, r⟩⟩
  · cases hm
  · cases hm
  obtain ⟨m1, m2⟩ := Bool.and_eq_true_iff.mp (show (mE t P l a x && (match (generalizing := false) r with
    | [] => mE t P l b y
    | r => mE t P l b (.BoolOp .And (y :: r) pos))) = true from hm)
  have hb : ∃ tb, PE X (.BoolOp .And (y :: r) pos) tb ∧ ∀ {S1 : Sto} {g1 : Gh} {H1 : Hp}, Rg W g1 S1 H1 → EnvOk W g1 σ env → EvP W wx σ g1 S1 H1 (ev (gamW W P n) b env S1) Q → tb σ H1 Q := by
    cases r with
    | nil => exact ⟨uE X y, pe_one pe_u, fun R eo h => ihb C m2 R eo h⟩
    | cons z r => exact ⟨uE X (.BoolOp .And (y :: z :: r) pos), pe_u, fun R eo h => ihb C m2 R eo h⟩
  obtain ⟨tb, hb1, hb2⟩ := hb
  refine uE_of (pe_and pe_u hb1) ?_
  refine iha C m1 R eo ?_
  have h' : EvP W wx σ g S H ((ev (gamW W P n) a env S).bind fun (_, d, S1, m) => match d with
    | .bl true => (ev (gamW W P n) b env S1).bind fun (k2, d2, S2, m2) => .ok (k2, d2, S2, m || m2)
    | .bl false => .ok (.vl false, .bl false, S1, m)
    | _ => .stuck) Q := h
  cases e1 : ev (gamW W P n) a env S with
  | stuck => rw [e1] at h'; exact h'.elim
  | exc c S1 => rw [e1] at h'; exact h'
  | ok r1 =>
    obtain ⟨k1, d1, S1, mm⟩ := r1
    rw [e1] at h'
    have h2 : EvP W wx σ g S H (match (generalizing := false) d1 with
      | .bl true => (ev (gamW W P n) b env S1).bind fun (k2, d2, S2, m2) => .ok (k2, d2, S2, mm || m2)
      | .bl false => .ok (.vl false, .bl false, S1, mm)
      | _ => .stuck) Q := h'
    intro g1 H1 v fp R1 gr1 hm1 rk1 fr1
    cases d1 <;> first
      | (exact h2.elim; done)
      | skip
    rename_i q
    refine ⟨q, rk_bl R1 rk1, ?_⟩
    cases q with
    | true =>
      rw [if_pos rfl]
      refine hb2 R1 (eo.mono gr1) ?_
      have h3 : EvP W wx σ g S H ((ev (gamW W P n) b env S1).bind fun (k2, d2, S2, m2) => .ok (k2, d2, S2, mm || m2)) Q := h2
      cases e2 : ev (gamW W P n) b env S1 with
      | stuck => rw [e2] at h3; exact h3.elim
      | exc c S2 => rw [e2] at h3; exact ExcOk.from (c := c) gr1 h3
      | ok r2 =>
        obtain ⟨k2, d2, S2, m2⟩ := r2
        rw [e2] at h3
        exact PoR.mono0 gr1 hm1 h3
    | false =>
      rw [if_neg (by decide)]
      exact h2 g1 H1 (.bl false) [] R1 gr1 hm1 ⟨rfl, rfl⟩ Fre.nil
theorem case_or {a b : E} (iha : EvS W t P F n a) (ihb : EvS W t P F n b) : EvS W t P F n (.or' a b) := fun {X l wx} C {x} hm {env S g H σ Q} R eo h => by
  cases x <;> first
    | (cases hm; done)
    | skip
  rename_i op xs pos
  cases op <;> first
    | (cases hm; done)
    | skip
  rcases xs with _ | ⟨x, _ | ⟨y, r⟩⟩
  · cases hm
  · cases hm
  obtain ⟨m1, m2⟩ := Bool.and_eq_true_iff.mp (show (mE t P l a x && (match (generalizing := false) r with
    | [] => mE t P l b y
    | r => mE t P l b (.BoolOp .Or (y :: r) pos))) = true from hm)
  have hb : ∃ tb, PE X (.BoolOp .Or (y :: r) pos) tb ∧ ∀ {S1 : Sto} {g1 : Gh} {H1 : Hp}, Rg W g1 S1 H1 → EnvOk W g1 σ env → EvP W wx σ g1 S1 H1 (ev (gamW W P n) b env S1) Q → tb σ H1 Q := by
    cases r with
    | nil => exact ⟨uE X y, pe_one pe_u, fun R eo h => ihb C m2 R eo h⟩
    | cons z r => exact ⟨uE X (.BoolOp .Or (y :: z :: r) pos), pe_u, fun R eo h => ihb C m2 R eo h⟩
  obtain ⟨tb, hb1, hb2⟩ := hb
  refine uE_of (pe_or pe_u hb1) ?_
  refine iha C m1 R eo ?_
  have h' : EvP W wx σ g S H ((ev (gamW W P n) a env S).bind fun (_, d, S1, m) => match d with
    | .bl false => (ev (gamW W P n) b env S1).bind fun (k2, d2, S2, m2) => .ok (k2, d2, S2, m || m2)
    | .bl true => .ok (.vl false, .bl true, S1, m)
    | _ => .stuck) Q := h
  cases e1 : ev (gamW W P n) a env S with
  | stuck => rw [e1] at h'; exact h'.elim
  | exc c S1 => rw [e1] at h'; exact h'
  | ok r1 =>
    obtain ⟨k1, d1, S1, mm⟩ := r1
    rw [e1] at h'
    have h2 : EvP W wx σ g S H (match (generalizing := false) d1 with
      | .bl false => (ev (gamW W P n) b env S1).bind fun (k2, d2, S2, m2) => .ok (k2, d2, S2, mm || m2)
      | .bl true => .ok (.vl false, .bl true, S1, mm)
      | _ => .stuck) Q := h'
    intro g1 H1 v fp R1 gr1 hm1 rk1 fr1
    cases d1 <;> first
      | (exact h2.elim; done)
      | skip
    rename_i q
    refine ⟨q, rk_bl R1 rk1, ?_⟩
    cases q with
    | false =>
      rw [if_neg (by decide)]
      refine hb2 R1 (eo.mono gr1) ?_
      have h3 : EvP W wx σ g S H ((ev (gamW W P n) b env S1).bind fun (k2, d2, S2, m2) => .ok (k2, d2, S2, mm || m2)) Q := h2
      cases e2 : ev (gamW W P n) b env S1 with
      | stuck => rw [e2] at h3; exact h3.elim
      | exc c S2 => rw [e2] at h3; exact ExcOk.from (c := c) gr1 h3
      | ok r2 =>
        obtain ⟨k2, d2, S2, m2⟩ := r2
        rw [e2] at h3
        exact PoR.mono0 gr1 hm1 h3
    | true =>
      rw [if_pos rfl]
      exact h2 g1 H1 (.bl true) [] R1 gr1 hm1 ⟨rfl, rfl⟩ Fre.nil
theorem cmpO_some {o : OpK} {c : CmpOp} (h : o.cmpO = some c) : o = .cmp c := by
  cases o <;> first
    | (cases h; done)
    | (cases h; rfl)
theorem cmpBl {o : Op} {c : CmpOp} (hc : opK o = .cmp c) {bs : List Vd} {r : Vd} (e : opv o S bs = some r) : ∃ q, r = (.vl false, .bl q) := by
  have pu : ∀ {fn : D → D → Option Bool} {gn : Bool → Bool}, pure2 (fun a b => (fn a b).map fun r => D.bl (gn r)) bs = some r → ∃ q, r = (.vl false, .bl q) := fun {fn gn} e => by
    obtain ⟨a, b, d, _, e1, rfl⟩ := pure2_some' e
    obtain ⟨q, _, rfl⟩ := Option.map_eq_some_iff.mp e1
    exact ⟨_, rfl⟩
  have ii : ∀ {fn : Int → Int → Bool}, two (opI fun i j => some (.bl (fn i j))) bs = some r → ∃ q, r = (.vl false, .bl q) := fun {fn} e => by
    obtain ⟨a, b, rfl, e1⟩ := two_some e
    obtain ⟨k1, k2, i, j, d, _, _, q, rfl⟩ := opI_some e
    cases q
    exact ⟨_, rfl⟩
  cases o <;> first
    | (exfalso; cases hc; done)
    | exact pu (gn := id) e
    | exact pu (fn := fun x d => dIn d x) (gn := id) e
    | exact pu (fn := fun x d => dIn d x) (gn := fun r => !r) e
    | exact pu (gn := fun r => !r) e
    | exact ii e
theorem case_ch {o1 o2 : Op} {a b c : E} (iha : EvS W t P F n a) (ihb : EvS W t P F n b) (ihc : EvS W t P F n c) : EvS W t P F n (.ch o1 o2 a b c) := fun {X l wx} C {x} hm {env S g H σ Q} R eo h => by
  cases x <;> first
    | (cases hm; done)
    | skip
  rename_i x ops ys pos
  rcases ops with _ | ⟨p, _ | ⟨q, _ | ⟨_, _⟩⟩⟩
  · cases hm
  · cases hm
  · rcases ys with _ | ⟨y, _ | ⟨z, _ | ⟨_, _⟩⟩⟩
    · cases hm
    · cases hm
    · have hm' : (decide ((opK o1).cmpO = some p) && decide ((opK o2).cmpO = some q) && !lastMarks [p, q] [y, z] && mE t P l a x && mE t P l b y && mE t P l c z) = true := hm
      simp only [Bool.and_eq_true, decide_eq_true_eq, Bool.not_eq_true'] at hm'
      obtain ⟨⟨⟨⟨⟨m1, m2⟩, m3⟩, m4⟩, m5⟩, m6⟩ := hm'
      have c1 := cmpO_some m1
      have c2 := cmpO_some m2
      refine uE_of (pe_chain uO_ok uO_ok pe_u pe_u pe_u m3) ?_
      have h' : EvP W wx σ g S H ((ev (gamW W P n) a env S).bind fun (k1, d1, S1, m1) => if m1 then .stuck else (ev (gamW W P n) b env S).bind fun (k2, d2, S2, m2) => if m2 || !isVl k2 then .stuck else
        (ofO ((derL S [(k1, d1), (k2, d2)]).bind fun bs => opv o1 S bs)).bind fun (_, d) => match d with
        | .bl true => (ev (gamW W P n) c env S).bind fun (k3, d3, S3, m3) => if m3 then .stuck else (ofO ((derL S [(k2, d2), (k3, d3)]).bind fun bs => opv o2 S bs)).bind fun (k, d) => .ok (k, d, S, false)
        | .bl false => .ok (.vl false, .bl false, S, false)
        | _ => .stuck) Q := h
      refine iha C m4 R eo ?_
      cases e1 : ev (gamW W P n) a env S with
      | stuck => rw [e1] at h'; exact h'.elim
      | exc c S1 => rw [e1] at h'; exact h'
      | ok r1 =>
        obtain ⟨k1, d1, S1, mm1⟩ := r1
        rw [e1] at h'
        cases mm1 with
        | true => exact h'.elim
        | false =>
          intro g1 H1 v fp R1 gr1 hm1 rk1 fr1
          obtain ⟨es1, ex1⟩ := hm1 rfl
          subst es1
          have h2 : EvP W wx σ g S1 H ((ev (gamW W P n) b env S1).bind fun (k2, d2, S2, m2) => if m2 || !isVl k2 then .stuck else
            (ofO ((derL S1 [(k1, d1), (k2, d2)]).bind fun bs => opv o1 S1 bs)).bind fun (_, d) => match d with
            | .bl true => (ev (gamW W P n) c env S1).bind fun (k3, d3, S3, m3) => if m3 then .stuck else (ofO ((derL S1 [(k2, d2), (k3, d3)]).bind fun bs => opv o2 S1 bs)).bind fun (k, d) => .ok (k, d, S1, false)
            | .bl false => .ok (.vl false, .bl false, S1, false)
            | _ => .stuck) Q := h'
          refine ihb C m5 R1 (eo.mono gr1) ?_
          cases e2 : ev (gamW W P n) b env S1 with
          | stuck => rw [e2] at h2; exact h2.elim
          | exc c S1 => rw [e2] at h2; exact ExcOk.from (c := c) gr1 h2
          | ok r2 =>
            obtain ⟨k2, d2, S2, mm2⟩ := r2
            rw [e2] at h2
            have h3 : EvP W wx σ g S1 H (if (mm2 || !isVl k2) = true then .stuck else
              (ofO ((derL S1 [(k1, d1), (k2, d2)]).bind fun bs => opv o1 S1 bs)).bind fun (_, d) => match d with
              | .bl true => (ev (gamW W P n) c env S1).bind fun (k3, d3, S3, m3) => if m3 then .stuck else (ofO ((derL S1 [(k2, d2), (k3, d3)]).bind fun bs => opv o2 S1 bs)).bind fun (k, d) => .ok (k, d, S1, false)
              | .bl false => .ok (.vl false, .bl false, S1, false)
              | _ => .stuck) Q := h2
            by_cases qq : (mm2 || !isVl k2) = true
            · rw [if_pos qq] at h3; exact h3.elim
            · rw [if_neg qq] at h3
              simp only [Bool.or_eq_true, Bool.not_eq_true', not_or, Bool.not_eq_true, Bool.not_eq_false] at qq
              obtain ⟨qa, qb⟩ := qq
              subst qa
              intro g2 H2 w fp2 R2 gr2 hm2 rk2 fr2
              obtain ⟨es2, ex2⟩ := hm2 rfl
              subst es2
              obtain ⟨lb, rfl⟩ : ∃ lb, k2 = .vl lb := by
                cases k2 with
                | vl lb => exact ⟨lb, rfl⟩
                | fr _ _ => cases qb
                | tn _ _ => cases qb
              have fp2n : fp2 = [] := rk2.1
              subst fp2n
              obtain ⟨rk1', fr1'⟩ := cons_keep (m := false) gr2 rk1 fr1 rfl hm2
              cases e3 : derL S2 [(k1, d1), (.vl lb, d2)] with
              | none => rw [e3] at h3; exact h3.elim
              | some bs =>
                rw [e3] at h3
                cases e4 : opv o1 S2 bs with
                | none => rw [show ((some bs).bind fun bs => opv o1 S2 bs) = none from e4] at h3; exact h3.elim
                | some r =>
                  rw [show ((some bs).bind fun bs => opv o1 S2 bs) = some r from e4] at h3
                  obtain ⟨qv, rfl⟩ := cmpBl c1 e4
                  have RKb : RKs W g2 S2 H2 [(k1, d1), (.vl lb, d2)] [v, w] (fp ++ []) := ⟨v, [w], fp, [], rfl, rfl, rk1', w, [], [], [], rfl, rfl, rk2, rfl, rfl⟩
                  have FRb : Fre g2 S2 (fun a => H a = none ∨ OwnU g S2 a) (fp ++ []) := by simpa using fr1'
                  have key : uOp W X o1 [v, w] H2 (fun zz H3 => ∃ k, zz = .bl k ∧ (if k = true then uE X z σ H3 fun w' H4 => uO X (compareOp q) w w' H4 Q else Q (.bl false) H3)) := by
                    refine opv_ok C.toFt (fun z => absurd (cmp_hot (show (opK o1).cmpO = some p by rw [c1]; rfl)) (by rw [z]; decide)) R2 (RKb.der R2 e3) FRb e4 fun g' H' zz fpz R' gr' ex rkz frz => ⟨qv, rk_bl R' rkz, ?_⟩
                    have G3 : Gr T0 g S2 H g' S2 H' := (gr1.trans0 gr2).trans1 (f := fp ++ []) FRb gr'
                    cases qv with
                    | false =>
                      rw [if_neg (by decide)]
                      exact h3 g' H' (.bl false) [] R' G3 (fun _ => ⟨rfl, (ex1.trans ex2).trans ex⟩) ⟨rfl, rfl⟩ Fre.nil
                    | true =>
                      rw [if_pos rfl]
                      have h4 : EvP W wx σ g S2 H ((ev (gamW W P n) c env S2).bind fun (k3, d3, S3, m3) => if m3 then .stuck else (ofO ((derL S2 [(.vl lb, d2), (k3, d3)]).bind fun bs => opv o2 S2 bs)).bind fun (k, d) => .ok (k, d, S2, false)) Q := h3
                      refine ihc C m6 R' (((eo.mono gr1).mono gr2).mono gr') ?_
                      cases e5 : ev (gamW W P n) c env S2 with
                      | stuck => rw [e5] at h4; exact h4.elim
                      | exc c' S3 => rw [e5] at h4; exact ExcOk.from (c := c') G3 h4
                      | ok r3 =>
                        obtain ⟨k3, d3, S3, mm3⟩ := r3
                        rw [e5] at h4
                        cases mm3 with
                        | true => exact h4.elim
                        | false =>
                          intro g4 H4 w' fp3 R4 gr4 hm4 rk4 fr4
                          obtain ⟨es4, ex4⟩ := hm4 rfl
                          subst es4
                          have h5 : EvP W wx σ g S3 H ((ofO ((derL S3 [(.vl lb, d2), (k3, d3)]).bind fun bs => opv o2 S3 bs)).bind fun (k, d) => .ok (k, d, S3, false)) Q := h4
                          have rkb : RK W g4 S3 H4 (.vl lb, d2) w [] := (rk2.keepP ex gr').keepP ex4 gr4
                          have up : uOp W X o2 [w, w'] H4 Q := op_tail (m := false) (as := [(.vl lb, d2), (k3, d3)]) (fp := [] ++ (fp3 ++ [])) C (fun z => absurd (cmp_hot (show (opK o2).cmpO = some q by rw [c2]; rfl)) (by rw [z]; decide)) (G3.trans0 gr4) (fun _ => ⟨rfl, ((ex1.trans ex2).trans ex).trans ex4⟩) R4 ⟨w, [w'], [], fp3 ++ [], rfl, rfl, rkb, w', [], fp3, [], rfl, rfl, rk4, rfl, rfl⟩ (by simpa using fr4.imp fun a _ z => new_back G3 z) h5
                          unfold uOp at up
                          rw [c2] at up
                          obtain ⟨_, _, e6, up⟩ := up
                          cases e6
                          exact up
                  unfold uOp at key
                  rw [c1] at key
                  obtain ⟨_, _, e6, key⟩ := key
                  cases e6
                  exact key
    · cases hm
  · cases hm
end
end Z

namespace Z
open PySem L2 PySem.Spec PyProof.Rows
section
variable {M : Model} {A : Around} {E : Value → Shared → Prop} {s : Shared} {env : Env}
theorem tst_cmp1 {l r : Expr} {op : CmpOp} {pos : Pos} {whole : Sem Value} {Q : Bool → Shared → Prop} (hm : behindInMarks op r = false)
    (h : wpAny M A (eval (.Compare l [op] [r] pos) env) (fun c s' => ∃ b, c = .bool b ∧ Q b s') E s) : wpAny M A (isTrue (.Compare l [op] [r] pos) env whole) Q E s := fun Γ p hΓ => by
  have h := h Γ p hΓ
  simp only [eval_Compare1, markedBehindIn_of_false hm, Sem.wp_bind', Sem.wp_holding, Sem.wp_cmd_standAt, Sem.wp_operate] at h
  simp only [isTrue_Compare1, markedBehindIn_of_false hm, Sem.wp_bind', Sem.wp_holding, Sem.wp_cmd_standAt, Sem.wp_operate]
  refine Sem.wp_mono M Γ _ (fun a p1 s1 h1 => Sem.wp_mono M Γ _ (fun b p2 s2 h2 => Sem.wp_mono M Γ _ (fun c p3 s3 h3 => ?_) (fun _ _ _ h' => h') _ _ h2) (fun _ _ _ h' => h') _ _ h1) (fun _ _ _ h' => h') _ _ h
  obtain ⟨q, rfl, h3⟩ := h3
  exact h3
theorem chain2 {pos : Pos} {a : Value} {o1 o2 : CmpOp} {t1 t2 : Sem Value} : compareChain pos a [o1, o2] [t1, t2] = (do
    let rv ← holding [a] t1
    standAt pos
    let c ← holding [a, rv] (compareOp o1 a rv)
    release [a, rv] [c]
    if ← holding [c, rv] (truthy c) then (do
      let rv2 ← holding [rv] t2
      standAt pos
      operate [rv, rv2] (compareOp o2 rv rv2)) else pure c) := rfl
theorem testChain2 {pos : Pos} {a : Value} {o1 o2 : CmpOp} {t1 t2 : Sem Value} : testChain pos a [o1, o2] [t1, t2] = (do
    let rv ← holding [a] t1
    standAt pos
    let c ← holding [a, rv] (compareOp o1 a rv)
    release [a, rv] [c]
    if ← holding [c, rv] (truthy c) then (do
      let rv2 ← holding [rv] t2
      standAt pos
      let c2 ← operate [rv, rv2] (compareOp o2 rv rv2)
      holding [c2] (truthy c2)) else pure false) := rfl
theorem tst_cmp2 {l r1 r2 : Expr} {o1 o2 : CmpOp} {pos : Pos} {whole : Sem Value} {Q : Bool → Shared → Prop} (hm : lastMarks [o1, o2] [r1, r2] = false)
    (h : wpAny M A (eval (.Compare l [o1, o2] [r1, r2] pos) env) (fun c s' => ∃ b, c = .bool b ∧ Q b s') E s) : wpAny M A (isTrue (.Compare l [o1, o2] [r1, r2] pos) env whole) Q E s := fun Γ p hΓ => by
  have h := h Γ p hΓ
  have e1 : eval (.Compare l [o1, o2] [r1, r2] pos) env = (do compareChain pos (← eval l env) [o1, o2] [eval r1 env, eval r2 env]) := by
    show (do compareChain pos (← eval l env) [o1, o2] (markedEach [o1, o2] [r1, r2] (evalEach [r1, r2] env))) = _
    rw [markedEach_of_false _ _ _ hm]; rfl
  have e2 : isTrue (.Compare l [o1, o2] [r1, r2] pos) env whole = (do testChain pos (← eval l env) [o1, o2] [eval r1 env, eval r2 env]) := by
    show (do testChain pos (← eval l env) [o1, o2] (markedEach [o1, o2] [r1, r2] (evalEach [r1, r2] env))) = _
    rw [markedEach_of_false _ _ _ hm]; rfl
  rw [e1] at h
  rw [e2]
  simp only [chain2, testChain2, Sem.wp_bind', Sem.wp_holding, Sem.wp_cmd_standAt, Sem.wp_operate, Sem.wp_release] at h ⊢
  refine Sem.wp_mono M Γ _ (fun a p1 s1 h1 => Sem.wp_mono M Γ _ (fun b p2 s2 h2 => Sem.wp_mono M Γ _ (fun c p3 s3 h3 => ?_) (fun _ _ _ h' => h') _ _ h2) (fun _ _ _ h' => h') _ _ h1) (fun _ _ _ h' => h') _ _ h
  have tr : ∀ {p4 : Pos} {s4 : Shared}, Sem.wp M Γ (do
      let rv2 ← holding [b] (eval r2 env)
      standAt pos
      operate [b, rv2] (compareOp o2 b rv2)) (fun c _ s' => ∃ q, c = .bool q ∧ Q q s') (fun e _ s' => E e s') p4 s4 → Sem.wp M Γ (do
      let rv2 ← holding [b] (eval r2 env)
      standAt pos
      let c2 ← operate [b, rv2] (compareOp o2 b rv2)
      holding [c2] (truthy c2)) (fun a _ s' => Q a s') (fun e _ s' => E e s') p4 s4 := fun {p4 s4} h4 => by
    simp only [Sem.wp_bind', Sem.wp_holding, Sem.wp_cmd_standAt, Sem.wp_operate] at h4 ⊢
    refine Sem.wp_mono M Γ _ (fun b' p5 s5 h5 => Sem.wp_mono M Γ _ (fun c2 p6 s6 h6 => ?_) (fun _ _ _ h' => h') _ _ h5) (fun _ _ _ h' => h') _ _ h4
    obtain ⟨q, rfl, h6⟩ := h6
    exact h6
  by_cases hc : ∃ q, c = .bool q
  · obtain ⟨q, rfl⟩ := hc
    cases q with
    | true => exact tr h3
    | false =>
      have h4 : ∃ q, Value.bool false = .bool q ∧ Q q s3 := h3
      obtain ⟨q, e, h4⟩ := h4
      cases e
      exact h4
  · refine Sem.wp_mono M Γ _ (fun t p4 s4 h4 => ?_) (fun _ _ _ h' => h') _ _ h3
    cases t with
    | true => exact tr h4
    | false =>
      have h5 : ∃ q, c = .bool q ∧ Q q s4 := h4
      obtain ⟨q, e, _⟩ := h5
      exact absurd ⟨q, e⟩ hc
theorem tstP_is {x : Expr} (h : tstP x = true) : ∀ whole, isTrue x env whole = (do let v ← whole; standAt x.pos; holding [v] (truthy v)) := by
  cases x <;> first
    | (exfalso; cases h; done)
    | (intro whole; rfl)
theorem tstB_run {x : Expr} (hx : tstB x = true) {Q : Bool → Shared → Prop} (h : wpAny M A (eval x env) (fun c s' => ∃ b, c = .bool b ∧ Q b s') E s) : wpAny M A (isTrue x env (eval x env)) Q E s := by
  have hp : ∀ y : Expr, tstP y = true → wpAny M A (eval y env) (fun c s' => ∃ b, c = .bool b ∧ Q b s') E s → wpAny M A (isTrue y env (eval y env)) Q E s := fun y hy h => by
    refine isTrue_plain (wpAny_mono h (fun v s1 ⟨b, e, q⟩ => ?_) fun _ _ z => z) (tstP_is hy _)
    subst e
    exact wpAny_truthy_bool q
  unfold tstB at hx
  split at hx
  · exact tst_cmp1 (by simpa using hx) h
  · exact tst_cmp2 (by simpa using hx) h
  · exact hp _ hx h
end
section
variable {W : Wr} {t : Tb} {P : Pg} {F : Fns} {n : Nat} {l : Lc} {wx : WX} {g g' g1 g2 : Gh} {S S' S1 S2 : Sto} {H H' H1 H2 : Hp} {X : Cx} {v u : V} {vs : List V} {f f1 f2 fp : List Addr} {σ : L2.St} {env : EnvD} {k : Kd} {d : D} {x : Expr} {Q : Bool → Hp → Prop}
theorem uT_b (hx : tstB x = true) (h : uE X x σ H fun v H' => ∃ b, v = .bl b ∧ Q b H') : uT X x σ H Q := fun pins s I => tstB_run hx (thn (h pins s I) fun u s' ⟨v, H', I', r, b, e, q⟩ => by
  subst e
  have : u = .bool b := r
  exact ⟨b, this, H', I', q⟩)
theorem uT_t (hx : tstP x = true) (h : uE X x σ H fun v H' => ∃ k, TruV X.K v H' k ∧ Q k H') : uT X x σ H Q := uT_of (pt_truth pe_u (tstP_is hx)) h
def CdP (W : Wr) (wx : WX) (σ : L2.St) (g : Gh) (S : Sto) (H : Hp) (r : R (Bool × Sto × Bool)) (Q : Bool → Hp → Prop) : Prop := match r with
  | .ok (b, S', m) => ∀ (g' : Gh) (H' : Hp), Rg W g' S' H' → Gr T0 g S H g' S' H' → (m = false → S' = S ∧ Ex H H') → Q b H'
  | .exc c S' => ExcOk W g S H c S' (wx (.ref (W.xc c)) none σ)
  | .stuck => False
def CdS (W : Wr) (t : Tb) (P : Pg) (F : Fns) (n : Nat) (c : Cd) : Prop := ∀ {X : Cx} {l : Lc} {wx : WX}, Cf X W t P F n l wx → ∀ {x : Expr}, mC t P l c x = true → ∀ {env : EnvD} {S : Sto} {g : Gh} {H : Hp} {σ : L2.St} {Q : Bool → Hp → Prop}, Rg W g S H → EnvOk W g σ env → CdP W wx σ g S H (tst (gamW W P n) c env S) Q → uT X x σ H Q
theorem case_b {e : E} (ih : EvS W t P F n e) : CdS W t P F n (.b e) := fun {X l wx} C {x} hm {env S g H σ Q} R eo h => by
  obtain ⟨m1, m2⟩ := Bool.and_eq_true_iff.mp (show (mE t P l e x && tstB x) = true by cases x <;> exact hm)
  refine uT_b m2 (ih C m1 R eo ?_)
  have h' : CdP W wx σ g S H ((ev (gamW W P n) e env S).bind fun (_, d, S1, m) => (ofO (blOf d)).bind fun b => .ok (b, S1, m)) Q := h
  cases e1 : ev (gamW W P n) e env S with
  | stuck => rw [e1] at h'; exact h'.elim
  | exc c S1 => rw [e1] at h'; exact h'
  | ok r1 =>
    obtain ⟨k1, d1, S1, mm⟩ := r1
    rw [e1] at h'
    have h2 : CdP W wx σ g S H ((ofO (blOf d1)).bind fun b => .ok (b, S1, mm)) Q := h'
    intro g1 H1 v fp R1 gr1 hm1 rk1 fr1
    cases d1 <;> first
      | (exact h2.elim; done)
      | skip
    rename_i q
    exact ⟨q, rk_bl R1 rk1, h2 g1 H1 R1 gr1 hm1⟩
theorem case_t {e : E} (ih : EvS W t P F n e) : CdS W t P F n (.t e) := fun {X l wx} C {x} hm {env S g H σ Q} R eo h => by
  obtain ⟨m1, m2⟩ := Bool.and_eq_true_iff.mp (show (mE t P l e x && tstP x) = true by cases x <;> exact hm)
  refine uT_t m2 (ih C m1 R eo ?_)
  have h' : CdP W wx σ g S H ((ev (gamW W P n) e env S).bind fun (k, d, S1, m) => (ofO ((der S1 (k, d)).bind fun a => truthD a.2)).bind fun b => .ok (b, S1, m)) Q := h
  cases e1 : ev (gamW W P n) e env S with
  | stuck => rw [e1] at h'; exact h'.elim
  | exc c S1 => rw [e1] at h'; exact h'
  | ok r1 =>
    obtain ⟨k1, d1, S1, mm⟩ := r1
    rw [e1] at h'
    have h2 : CdP W wx σ g S H ((ofO ((der S1 (k1, d1)).bind fun a => truthD a.2)).bind fun b => .ok (b, S1, mm)) Q := h'
    intro g1 H1 v fp R1 gr1 hm1 rk1 fr1
    cases e2 : der S1 (k1, d1) with
    | none => rw [e2] at h2; exact h2.elim
    | some a =>
      rw [e2] at h2
      have h3 : CdP W wx σ g S H ((ofO (truthD a.2)).bind fun b => .ok (b, S1, mm)) Q := h2
      cases e3 : truthD a.2 with
      | none => rw [e3] at h3; exact h3.elim
      | some q =>
        rw [e3] at h3
        exact ⟨q, truthD_ok C.K R1 (rk1.der R1 e2) e3, h3 g1 H1 R1 gr1 hm1⟩
theorem case_not {a : Cd} (ih : CdS W t P F n a) : CdS W t P F n (.not' a) := fun {X l wx} C {x} hm {env S g H σ Q} R eo h => by
  cases x <;> first
    | (cases hm; done)
    | skip
  rename_i op y pos
  cases op <;> first
    | (cases hm; done)
    | skip
  refine uT_of (pt_not pt_u) (ih C (x := y) hm R eo ?_)
  have h' : CdP W wx σ g S H ((tst (gamW W P n) a env S).bind fun (c, S1, m) => .ok (!c, S1, m)) Q := h
  cases e1 : tst (gamW W P n) a env S with
  | stuck => rw [e1] at h'; exact h'.elim
  | exc c S1 => rw [e1] at h'; exact h'
  | ok r1 =>
    obtain ⟨b, S1, mm⟩ := r1
    rw [e1] at h'
    exact h'
theorem pw_u {op : BoolOp} {es : List Expr} {pos : Pos} : PW X (.BoolOp op es pos) (uT X (.BoolOp op es pos)) := ⟨fun wh pins s σ H Q I h => by
  have e : isTrue (.BoolOp op es pos) X.env wh = isTrue (.BoolOp op es pos) X.env (eval (.BoolOp op es pos) X.env) := by
    cases op <;> cases es <;> rfl
  rw [e]
  exact h pins s I⟩
theorem CdP.on {m0 : Bool} {r : R (Bool × Sto × Bool)} (gr : Gr T0 g S H g1 S1 H1) (hm : m0 = false → S1 = S ∧ Ex H H1) (h : CdP W wx σ g S H (r.bind fun (c, S2, m) => .ok (c, S2, m0 || m)) Q) : CdP W wx σ g1 S1 H1 r Q := by
  cases r with
  | stuck => exact h.elim
  | exc c S2 => exact ExcOk.from (c := c) gr h
  | ok r =>
    obtain ⟨c, S2, m⟩ := r
    intro g' H' R' gr' hm'
    refine h g' H' R' (gr.trans0 gr') fun z => ?_
    obtain ⟨z1, z2⟩ := Bool.or_eq_false_iff.mp z
    obtain ⟨a1, a2⟩ := hm z1
    obtain ⟨a3, a4⟩ := hm' z2
    exact ⟨a3.trans a1, a2.trans a4⟩
theorem case_andC {a b : Cd} (iha : CdS W t P F n a) (ihb : CdS W t P F n b) : CdS W t P F n (.and' a b) := fun {X l wx} C {x} hm {env S g H σ Q} R eo h => by
  cases x <;> first
    | (cases hm; done)
    | skip
  rename_i op xs pos
  cases op <;> first
    | (cases hm; done)
    | skip
  rcases xs with _ | ⟨x, _ | ⟨y, r⟩⟩
  · cases hm
  · cases hm
  obtain ⟨m1, m2⟩ := Bool.and_eq_true_iff.mp (show (mC t P l a x && (match (generalizing := false) r with
    | [] => mC t P l b y
    | r => mC t P l b (.BoolOp .And (y :: r) pos))) = true from hm)
  have hb : ∃ tb, PW X (.BoolOp .And (y :: r) pos) tb ∧ ∀ {S1 : Sto} {g1 : Gh} {H1 : Hp}, Rg W g1 S1 H1 → EnvOk W g1 σ env → CdP W wx σ g1 S1 H1 (tst (gamW W P n) b env S1) Q → tb σ H1 Q := by
    cases r with
    | nil => exact ⟨uT X y, pw_and1 pt_u, fun R eo h => ihb C m2 R eo h⟩
    | cons z r => exact ⟨uT X (.BoolOp .And (y :: z :: r) pos), pw_u, fun R eo h => ihb C m2 R eo h⟩
  obtain ⟨tb, hb1, hb2⟩ := hb
  refine uT_of (pw_and pt_u hb1).pt ?_
  refine iha C m1 R eo ?_
  have h' : CdP W wx σ g S H ((tst (gamW W P n) a env S).bind fun (c, S1, m) => if c then (tst (gamW W P n) b env S1).bind fun (c2, S2, m2) => .ok (c2, S2, m || m2) else .ok (false, S1, m)) Q := h
  cases e1 : tst (gamW W P n) a env S with
  | stuck => rw [e1] at h'; exact h'.elim
  | exc c S1 => rw [e1] at h'; exact h'
  | ok r1 =>
    obtain ⟨c1, S1, mm⟩ := r1
    rw [e1] at h'
    have h2 : CdP W wx σ g S H (if c1 = true then (tst (gamW W P n) b env S1).bind fun (c2, S2, m2) => .ok (c2, S2, mm || m2) else .ok (false, S1, mm)) Q := h'
    intro g1 H1 R1 gr1 hm1
    cases c1 with
    | true =>
      rw [if_pos rfl] at h2 ⊢
      exact hb2 R1 (eo.mono gr1) (CdP.on gr1 hm1 h2)
    | false =>
      rw [if_neg (by decide)] at h2 ⊢
      exact h2 g1 H1 R1 gr1 hm1
theorem case_orC {a b : Cd} (iha : CdS W t P F n a) (ihb : CdS W t P F n b) : CdS W t P F n (.or' a b) := fun {X l wx} C {x} hm {env S g H σ Q} R eo h => by
  cases x <;> first
    | (cases hm; done)
    | skip
  rename_i op xs pos
  cases op <;> first
    | (cases hm; done)
    | skip
  rcases xs with _ | ⟨x, _ | ⟨y, r⟩⟩
  · cases hm
  · cases hm
  obtain ⟨m1, m2⟩ := Bool.and_eq_true_iff.mp (show (mC t P l a x && (match (generalizing := false) r with
    | [] => mC t P l b y
    | r => mC t P l b (.BoolOp .Or (y :: r) pos))) = true from hm)
  have hb : ∃ tb, PW X (.BoolOp .Or (y :: r) pos) tb ∧ ∀ {S1 : Sto} {g1 : Gh} {H1 : Hp}, Rg W g1 S1 H1 → EnvOk W g1 σ env → CdP W wx σ g1 S1 H1 (tst (gamW W P n) b env S1) Q → tb σ H1 Q := by
    cases r with
    | nil => exact ⟨uT X y, pw_or1 pt_u, fun R eo h => ihb C m2 R eo h⟩
    | cons z r => exact ⟨uT X (.BoolOp .Or (y :: z :: r) pos), pw_u, fun R eo h => ihb C m2 R eo h⟩
  obtain ⟨tb, hb1, hb2⟩ := hb
  refine uT_of (pw_or pt_u hb1).pt ?_
  refine iha C m1 R eo ?_
  have h' : CdP W wx σ g S H ((tst (gamW W P n) a env S).bind fun (c, S1, m) => if c then .ok (true, S1, m) else (tst (gamW W P n) b env S1).bind fun (c2, S2, m2) => .ok (c2, S2, m || m2)) Q := h
  cases e1 : tst (gamW W P n) a env S with
  | stuck => rw [e1] at h'; exact h'.elim
  | exc c S1 => rw [e1] at h'; exact h'
  | ok r1 =>
    obtain ⟨c1, S1, mm⟩ := r1
    rw [e1] at h'
    have h2 : CdP W wx σ g S H (if c1 = true then .ok (true, S1, mm) else (tst (gamW W P n) b env S1).bind fun (c2, S2, m2) => .ok (c2, S2, mm || m2)) Q := h'
    intro g1 H1 R1 gr1 hm1
    cases c1 with
    | true =>
      rw [if_pos rfl] at h2 ⊢
      exact h2 g1 H1 R1 gr1 hm1
    | false =>
      rw [if_neg (by decide)] at h2 ⊢
      exact hb2 R1 (eo.mono gr1) (CdP.on gr1 hm1 h2)
end
end Z

namespace Z
open PySem L2 PySem.Spec PyProof.Rows
/-- as EnvOk, but for some slots -/
def EnvX (W : Wr) (g : Gh) (σ : L2.St) (env : EnvD) (ex : Nat → Prop) : Prop := (env.length = σ.length ∧ XsOk W g) ∧ ∀ (i : Nat) (l : Bool) (d : D), ¬ ex i → env[i]? = some (some (l, d)) → ∃ v, σ[i]? = some (some v) ∧ Rv W g.r (g.G l) d v
def setL (σ : L2.St) : List Nat → List V → L2.St
  | i :: tg, v :: vs => setL (σ.set i (some v)) tg vs
  | _, _ => σ
def setE (env : EnvD) (f : D → Bool × D) : List Nat → List D → EnvD
  | i :: tg, d :: ds => setE (env.set i (some (f d))) f tg ds
  | _, _ => env
theorem foldl_setE {f : D → Bool × D} : ∀ {tg : List Nat} {ds : List D} {env : EnvD}, (tg.zip ds).foldl (fun e p => e.set p.1 (some (f p.2))) env = setE env f tg ds
  | [], ds, env => by cases ds <;> rfl
  | _ :: _, [], _ => rfl
  | i :: tg, d :: ds, env => foldl_setE (tg := tg)
def gsN : List Nat → TGs
  | [] => gNil
  | i :: r => gCons (gName i) (gsN r)
section
variable {W : Wr} {t : Tb} {P : Pg} {F : Fns} {n : Nat} {l : Lc} {wx : WX} {g g' g1 g2 : Gh} {S S' S1 S2 : Sto} {H H' H1 H2 : Hp} {X : Cx} {v u : V} {vs : List V} {f f1 f2 fp : List Addr} {σ σ' : L2.St} {env : EnvD} {k : Kd} {d : D} {x : Expr} {ex : Nat → Prop}
theorem EnvOk.toX (h : EnvOk W g σ env) : EnvX W g σ env ex := ⟨h.1, fun i l d _ e => h.2 i l d e⟩
theorem EnvX.ok (h : EnvX W g σ env ex) (k : ∀ i, ¬ ex i) : EnvOk W g σ env := ⟨h.1, fun i l d e => h.2 i l d (k i) e⟩
theorem EnvX.imp {ex' : Nat → Prop} (h : EnvX W g σ env ex) (k : ∀ i, ex i → ex' i) : EnvX W g σ env ex' := ⟨h.1, fun i l d z e => h.2 i l d (fun q => z (k i q)) e⟩
theorem EnvX.set {lb : Bool} (h : EnvX W g σ env ex) (rv : Rv W g.r (g.G lb) d v) (i : Nat) : EnvX W g (σ.set i (some v)) (env.set i (some (lb, d))) (fun j => ex j ∧ j ≠ i) := by
  refine ⟨⟨by rw [List.length_set, List.length_set]; exact h.1.1, h.1.2⟩, fun j l' d' nx e => ?_⟩
  by_cases q : i = j
  · subst q
    by_cases hl : i < env.length
    · rw [List.getElem?_set_self hl] at e
      cases e
      exact ⟨v, List.getElem?_set_self (by rw [← h.1.1]; exact hl), rv⟩
    · rw [List.getElem?_eq_none (by rw [List.length_set]; omega)] at e; cases e
  · rw [List.getElem?_set_ne q] at e ⊢
    exact h.2 j l' d' (fun z => nx ⟨z, fun z => q z.symm⟩) e
theorem EnvX.setL {fd : D → Bool × D} (hf : ∀ d, (fd d).2 = d) : ∀ {tg : List Nat} {ds : List D} {vs : List V} {σ : L2.St} {env : EnvD} {ex : Nat → Prop}, EnvX W g σ env ex → tg.length = ds.length → (∀ (i : Nat) (d : D), ds[i]? = some d → ∃ v, vs[i]? = some v ∧ Rv W g.r (g.G (fd d).1) d v) →
    EnvX W g (Z.setL σ tg vs) (setE env fd tg ds) (fun j => ex j ∧ j ∉ tg)
  | [], [], vs, σ, env, ex, h, _, _ => by
    cases vs <;> exact h.imp fun i z => ⟨z, by simp⟩
  | [], _ :: _, _, _, _, _, _, e, _ => by cases e
  | _ :: _, [], _, _, _, _, _, e, _ => by cases e
  | i :: tg, d :: ds, vs, σ, env, ex, h, e, r => by
    obtain ⟨v, hv, rv⟩ := r 0 d rfl
    cases vs with
    | nil => cases hv
    | cons v' vs =>
      cases hv
      have hd : fd d = ((fd d).1, d) := Prod.ext rfl (hf d)
      have h1 := h.set rv i
      rw [← hd] at h1
      refine (EnvX.setL hf h1 (by simpa using e) (vs := vs) fun j d' q => r (j + 1) d' q).imp fun j z => ?_
      obtain ⟨⟨z1, z2⟩, z3⟩ := z
      exact ⟨z1, by simp only [List.mem_cons, not_or]; exact ⟨z2, z3⟩⟩
theorem wipe_in {σ : L2.St} {i : Nat} : ∀ {vs : List Nat}, i ∈ vs → i < σ.length → (wipe σ vs)[i]? = some none
  | v :: vs, h, hl => by
    unfold wipe
    by_cases q : v = i
    · subst q
      rw [List.getElem?_set_self (by rw [wipe_length]; exact hl)]
    · rw [List.getElem?_set_ne q]
      exact wipe_in ((List.mem_cons.mp h).resolve_left fun z => q z.symm) hl
theorem wipe_eq {σ σ' : L2.St} {vs : List Nat} (hl : σ'.length = σ.length) (h : ∀ i, i ∉ vs → σ'[i]? = σ[i]?) : wipe σ' vs = wipe σ vs := by
  apply List.ext_getElem?
  intro i
  by_cases q : i ∈ vs
  · by_cases z : i < σ.length
    · rw [wipe_in q z, wipe_in q (by rw [hl]; exact z)]
    · rw [List.getElem?_eq_none (by rw [wipe_length]; omega), List.getElem?_eq_none (by rw [wipe_length]; omega)]
  · rw [wipe_out q, wipe_out q]; exact h i q
theorem setL_len : ∀ {tg : List Nat} {vs : List V} {σ : L2.St}, (Z.setL σ tg vs).length = σ.length
  | [], _, _ => by rfl
  | _ :: _, [], _ => rfl
  | i :: tg, v :: vs, σ => by
    show (Z.setL (σ.set i (some v)) tg vs).length = σ.length
    rw [setL_len (tg := tg), List.length_set]
theorem setL_out : ∀ {tg : List Nat} {vs : List V} {σ : L2.St} {i : Nat}, i ∉ tg → (Z.setL σ tg vs)[i]? = σ[i]?
  | [], _, _, _, _ => rfl
  | _ :: _, [], _, _, _ => rfl
  | j :: tg, v :: vs, σ, i, h => by
    simp only [List.mem_cons, not_or] at h
    show (Z.setL (σ.set j (some v)) tg vs)[i]? = σ[i]?
    rw [setL_out h.2, List.getElem?_set_ne (Ne.symm h.1)]
theorem EnvOk.wipe (h : EnvOk W g σ env) (vs : List Nat) : EnvX W g (L2.wipe σ vs) env (· ∈ vs) := ⟨⟨by rw [wipe_length]; exact h.1.1, h.1.2⟩, fun i l d nx e => by
  rw [wipe_out nx]; exact h.2 i l d e⟩
theorem gsN_ok : ∀ {tg : List Nat} {vs : List V} {σ : L2.St} {Q : L2.St → Hp → Prop}, vs.length = tg.length → Q (Z.setL σ tg vs) H → gsN tg vs σ H Q
  | [], vs, σ, Q, e, q => by
    cases vs with
    | nil => exact ⟨rfl, q⟩
    | cons _ _ => cases e
  | i :: tg, vs, σ, Q, e, q => by
    cases vs with
    | nil => cases e
    | cons v vs => exact ⟨v, vs, rfl, gsN_ok (by simpa using e) q⟩
def tgB (l : Lc) (e : Expr) (i : Nat) : Bool := match e with
  | .Name y _ => decide (l.N[i]? = some y) && (kindB l y .local || (kindB l y .cell && l.fn y))
  | _ => false
theorem pg_of (C : Cf X W t P F n l wx) {e : Expr} {i : Nat} (h : tgB l e i = true) : PG X e (gName i) ∧ ∀ es, assignEach (e :: es) X.env = (false, assign e X.env) :: assignEach es X.env := by
  unfold tgB at h
  split at h
  · rename_i y p
    simp only [Bool.and_eq_true, Bool.or_eq_true, decide_eq_true_eq, kindB] at h
    obtain ⟨h1, h2⟩ := h
    refine ⟨pg_name (by rw [C.N]; exact C.nd) (by rw [C.N]; exact h1) ?_ ?_, fun es => rfl⟩
    · rw [C.sc]
      rcases h2 with h2 | h2
      · exact .inl h2
      · exact .inr h2.1
    · rw [C.sc, C.fnx]
      rcases h2 with h2 | h2
      · exact .inr h2
      · exact .inl h2.2
  · cases h
theorem pgs_of (C : Cf X W t P F n l wx) : ∀ {es : List Expr} {tg : List Nat}, es.length = tg.length → (es.zip tg).all (fun (e, i) => tgB l e i) = true → PGs X es (gsN tg) ∧ (assignEach es X.env).length = tg.length ∧ (assignEach es X.env).findIdx? (·.1) = none
  | [], [], _, _ => ⟨pgs_nil, rfl, rfl⟩
  | [], _ :: _, e, _ => by cases e
  | _ :: _, [], e, _ => by cases e
  | e :: es, i :: tg, hl, h => by
    obtain ⟨h1, h2⟩ := Bool.and_eq_true_iff.mp (show (tgB l e i && (es.zip tg).all fun (e, i) => tgB l e i) = true from h)
    obtain ⟨p1, p2⟩ := pg_of C h1
    obtain ⟨q1, q2, q3⟩ := pgs_of C (by simpa using hl) h2
    refine ⟨pgs_cons p1 q1 (by rw [p2]; rfl), by rw [p2]; simp [q2], ?_⟩
    rw [p2, List.findIdx?_cons]
    simp [q3]
/-- what a target does -/
def tgG (K : PySem.W.Frag) (tg : List Nat) (tp : Bool) : TG := if tp then gTup K tg.length (gsN tg) else match tg with
  | [i] => gName i
  | _ => fun _ _ _ _ => False
theorem tg_run {K : PySem.W.Frag} {tg : List Nat} {tp : Bool} {env env' : EnvD} {ld : Bool × D} {Q : L2.St → Hp → Prop} (R : Rg W g S H) (rv : Rv W g.r (g.G ld.1) ld.2 v) (e : bindT env tg tp ld = some env') (ev : EnvX W g σ env ex)
    (k : ∀ σ', σ'.length = σ.length → (∀ i, i ∉ tg → σ'[i]? = σ[i]?) → EnvX W g σ' env' (fun j => ex j ∧ j ∉ tg) → Q σ' H) : tgG K tg tp v σ H Q := by
  cases tp with
  | false =>
    have e0 : (match (generalizing := false) tg with
      | [i] => some (env.set i (some ld))
      | _ => none) = some env' := e
    obtain ⟨lb, d⟩ := ld
    rcases tg with _ | ⟨i, _ | ⟨j, r⟩⟩
    · cases e0
    · cases e0
      exact k _ (List.length_set ..) (fun j hj => List.getElem?_set_ne (fun z => hj (by simp [z]))) ((ev.set rv i).imp fun j z => ⟨z.1, by simp [z.2]⟩)
    · cases e0
  | true =>
    obtain ⟨lb, d⟩ := ld
    cases d <;> first
      | (exfalso; cases e; done)
      | skip
    rename_i xs
    have e' : (if xs.length = tg.length then some ((tg.zip xs).foldl (fun e p => e.set p.1 (some (if p.2.imm then false else lb, p.2))) env) else none) = some env' := e
    obtain ⟨hl, e2⟩ := ite_some e'
    rw [foldl_setE (f := fun d => (if d.imm then false else lb, d))] at e2
    subst e2
    obtain ⟨a, vs, rfl, h3, h4⟩ := rv
    have hlv := h4.length
    refine ⟨a, vs, rfl, TupV.sq (R.G_h _ _ _ h3), by omega, gsN_ok (by omega) (k _ setL_len (fun i hi => setL_out hi) (ev.setL (fun _ => rfl) hl.symm fun i d hd => ?_))⟩
    obtain ⟨v, hv, rv⟩ := h4.get hd
    refine ⟨v, hv, ?_⟩
    cases q : d.imm with
    | true => exact Rv.imm R.tup q (Rv.mono (R.G_h lb) (fun _ _ z => z) rv)
    | false => exact rv
theorem tg_pg (C : Cf X W t P F n l wx) (hc : l.hot = false) {tg : List Nat} {tp : Bool} (hm : mTg l tg tp x = true) : PG X x (tgG X.K tg tp) := by
  cases tp with
  | false =>
    have hm' : (match (generalizing := false) x, tg with
      | .Name y p, [i] => decide (l.N[i]? = some y) && (kindB l y .local || (kindB l y .cell && l.fn y))
      | _, _ => false) = true := hm
    split at hm'
    · rename_i y p i
      exact (pg_of (e := .Name y p) C hm').1
    · cases hm'
  | true =>
    have hm' : (match (generalizing := false) x with
      | .Tuple es kk p => decide (es.length = tg.length) && (es.zip tg).all fun (e, i) => tgB l e i
      | _ => false) = true := hm
    split at hm'
    · rename_i es kk p
      obtain ⟨h1, h2⟩ := Bool.and_eq_true_iff.mp hm'
      obtain ⟨q1, q2, q3⟩ := pgs_of C (of_decide_eq_true h1) h2
      exact pg_tup (C.calm hc) q1 q2 q3
    · cases hm'
theorem lockB_live {b : Bx} {lb : Bool} (h : Live S n b) {m : Nat} {c : Bx} : Live (lockB S n lb) m c ↔ (m = n ∧ c = { b with lk := lb }) ∨ (m ≠ n ∧ Live S m c) := by
  have h' : S[n]? = some (some b) := h
  have e : lockB S n lb = S.set n (some { b with lk := lb }) := by unfold lockB; rw [h']
  rw [e, live_set h.lt]
  constructor
  · rintro (⟨h1, h2⟩ | h1)
    · exact .inl ⟨h1, (Option.some.inj h2).symm⟩
    · exact .inr h1
  · rintro (⟨h1, h2⟩ | h1)
    · exact .inl ⟨h1, by rw [h2]⟩
    · exact .inr h1
theorem lockB_len {lb : Bool} : (lockB S n lb).length = S.length := by
  unfold lockB
  split
  · rw [List.length_set]
  · rfl
theorem Rg.lock (R : Rg W g S H) {b : Bx} (h : Live S n b) (lb : Bool) : Rg W g (lockB S n lb) H := by
  have go : ∀ m c, Live (lockB S n lb) m c → ∃ c', Live S m c' ∧ c'.d = c.d ∧ c'.dp = c.dp ∧ c'.ln = c.ln := fun m c z => by
    rcases (lockB_live h).mp z with ⟨rfl, rfl⟩ | ⟨_, z⟩
    · exact ⟨b, h, rfl, rfl, rfl⟩
    · exact ⟨c, z, rfl, rfl, rfl⟩
  refine ⟨R.fl, R.lh, R.tup, fun m c z => ?_, fun m c z => ?_, fun m1 m2 c1 c2 z1 z2 ne => ?_, fun m c z => ?_, fun m a z => ?_⟩
  · obtain ⟨c', q, e1, e2, e3⟩ := go m c z
    obtain ⟨a, h1, h2⟩ := R.box m c' q
    exact ⟨a, h1, by rw [← e1, ← e2, ← e3]; exact h2⟩
  · obtain ⟨c', q, _⟩ := go m c z
    exact R.nd m c' q
  · obtain ⟨c1', q1, _⟩ := go m1 c1 z1
    obtain ⟨c2', q2, _⟩ := go m2 c2 z2
    exact R.dis m1 m2 c1' c2' q1 q2 ne
  · obtain ⟨c', q, _⟩ := go m c z
    exact R.off m c' q
  · rw [lockB_len]; exact R.rho m a z
theorem lockOf_live {b : Bx} (h : Live S n b) : lockOf S n = b.lk := by
  have h' : S[n]? = some (some b) := h
  unfold lockOf; rw [h']
theorem ownU_lock {b : Bx} (h : Live S n b) {a : Addr} (o : OwnU g (lockB S n true) a) : OwnU g S a ∧ ∃ m c, m ≠ n ∧ Live S m c ∧ a ∈ g.fp m := by
  obtain ⟨m, c, h1, h2, h3⟩ := o
  rcases (lockB_live h).mp h1 with ⟨rfl, rfl⟩ | ⟨ne, z⟩
  · cases h2
  · exact ⟨⟨m, c, z, h2, h3⟩, m, c, ne, z, h3⟩
theorem Gr.unlock {b : Bx} (h : Live S n b) (k : Gr T0 g (lockB S n true) H g' S' H') : Gr T0 g S H g' (lockB S' n (lockOf S n)) H' ∧ Live S' n { b with lk := true } := by
  have lv : Live S' n { b with lk := true } := ((k.lk n { b with lk := true } rfl).1).mp ((lockB_live h).mpr (.inl ⟨rfl, rfl⟩))
  have hfp : g'.fp n = g.fp n := (k.lk n { b with lk := true } rfl).2 ((lockB_live h).mpr (.inl ⟨rfl, rfl⟩))
  have e0 := lockOf_live h
  have bb : ({ ({ b with lk := true } : Bx) with lk := b.lk } : Bx) = b := by cases b; rfl
  refine ⟨⟨k.f, k.l, k.r, fun a o e no _ => k.fr a o e (fun z => no (ownU_lock h z).1) id, fun a e => ?_, fun a e => ?_, fun a e => ?_, fun m c e => ?_, ?_⟩, lv⟩
  · rcases k.fo a e with z | z | z | z
    · exact .inl z
    · exact .inr (.inl z)
    · exact .inr (.inr (.inl (ownU_lock h z).1))
    · exact z.elim
  · rcases k.lo a e with z | z | z | z
    · exact .inl z
    · exact .inr (.inl z)
    · exact .inr (.inr (.inl (ownU_lock h z).1))
    · exact z.elim
  · obtain ⟨m, c, h1, h2, h3⟩ := e
    rcases (lockB_live lv).mp h1 with ⟨rfl, rfl⟩ | ⟨ne, z⟩
    · refine .inl ⟨m, b, h, ?_, by rw [← hfp]; exact h3⟩
      rw [← e0]; exact h2
    · rcases k.oo a ⟨m, c, z, h2, h3⟩ with q | q | q
      · exact .inl (ownU_lock h q).1
      · exact .inr (.inl q)
      · exact q.elim
  · have key := k.lk m c e
    by_cases q : m = n
    · subst q
      have iff1 : Live S m c ↔ c = b := ⟨fun z => z.fun h, fun z => by rw [z]; exact h⟩
      have iff2 : Live (lockB S' m (lockOf S m)) m c ↔ c = b := by
        rw [lockB_live lv, e0, bb]
        constructor
        · rintro (⟨_, z⟩ | ⟨z, _⟩)
          · exact z
          · exact absurd rfl z
        · exact fun z => .inl ⟨rfl, z⟩
      exact ⟨iff1.trans iff2.symm, fun _ => hfp⟩
    · have i1 : Live (lockB S n true) m c ↔ Live S m c := by
        rw [lockB_live h]
        exact ⟨fun z => z.elim (fun z => absurd z.1 q) (·.2), fun z => .inr ⟨q, z⟩⟩
      have i2 : Live (lockB S' n (lockOf S n)) m c ↔ Live S' m c := by
        rw [lockB_live lv]
        exact ⟨fun z => z.elim (fun z => absurd z.1 q) (·.2), fun z => .inr ⟨q, z⟩⟩
      exact ⟨i1.symm.trans (key.1.trans i2.symm), fun z => key.2 (i1.mpr z)⟩
  · have := k.len
    rw [lockB_len] at this ⊢
    exact this
theorem lockB_back {b : Bx} (h : Live S n b) : lockB (lockB S n true) n (lockOf S n) = S := by
  have h' : S[n]? = some (some b) := h
  have e : lockB S n true = S.set n (some { b with lk := true }) := by unfold lockB; rw [h']
  rw [e, lockOf_live h]
  unfold lockB
  rw [List.getElem?_set_self h.lt]
  simp only
  rw [List.set_set]
  have : ({ ({ b with lk := true } : Bx) with lk := b.lk } : Bx) = b := by cases b; rfl
  rw [this]
  obtain ⟨hl, e2⟩ := List.getElem?_eq_some_iff.mp h'
  rw [← e2, List.set_getElem_self]
end
end Z

namespace Z
open PySem L2 PySem.Spec PyProof.Rows
def uIt (X : Cx) (tg x : Expr) : TI := fun σ H R => ∀ (pins : List (Addr × Obj)) (s : Shared), Inv X pins σ H s → wpAny (model X.prog X.w) X.A (eval x X.env) (fun v s1 => wpAny (model X.prog X.w) X.A (pyIter v) (PIE X pins σ tg R) X.xe s1) X.xe s
theorem pi_u {X : Cx} {tg x : Expr} : PI X tg x (uIt X tg x) := ⟨fun pins s σ H R I h => h pins s I⟩
theorem uIt_of {X : Cx} {tg x : Expr} {wi : TI} (p : PI X tg x wi) {σ : L2.St} {H : Hp} {R : L2.It → Hp → Prop} (h : wi σ H R) : uIt X tg x σ H R := fun pins s I => p.run pins s σ H R I h
def LockOk (S : Sto) : Option Nat → Prop
  | none => True
  | some n => ∃ b, Live S n b
def WkOk (W : Wr) (g1 : Gh) (Sl : Sto) (H1 : Hp) (items : List (Bool × D)) (J : L2.It) : Prop := ∃ (G : Hp → Prop) (Y : Nat → Hp → V → Hp → Prop), Walk J items.length G Y ∧ (∀ g' S' H', Rg W g' S' H' → Gr T0 g1 Sl H1 g' S' H' → G H') ∧
  ∀ (i : Nat) (l : Bool) (d : D) (H : Hp) (x : V) (H' : Hp), items[i]? = some (l, d) → Y i H x H' → ∀ g' S', Rg W g' S' H → Gr T0 g1 Sl H1 g' S' H → ∃ g'', Rg W g'' S' H' ∧ Gr T0 g' S' H g'' S' H' ∧ Ex H H' ∧ Rv W g''.r (g''.G l) d x
def ItP (W : Wr) (wx : WX) (σ : L2.St) (g : Gh) (S : Sto) (H : Hp) (r : R (List (Bool × D) × Option Nat × Sto × Bool)) (Q : L2.It → Hp → Prop) : Prop := match r with
  | .ok (items, bo, S', m) => ∀ (g' : Gh) (H' : Hp) (J : L2.It), Rg W g' S' H' → Gr T0 g S H g' S' H' → (m = false → S' = S ∧ Ex H H') → LockOk S' bo → WkOk W g' (lockO S' bo) H' items J → Q J H'
  | .exc c S' => ExcOk W g S H c S' (wx (.ref (W.xc c)) none σ)
  | .stuck => False
def isTup : Expr → Bool
  | .Tuple _ _ _ => true
  | _ => false
def ItS (W : Wr) (t : Tb) (P : Pg) (F : Fns) (n : Nat) (it : It) : Prop := ∀ {X : Cx} {l : Lc} {wx : WX}, Cf X W t P F n l wx → ∀ {tgx x : Expr}, mIt t P l it x = true → (enuOk it false = false → isTup tgx = true) → ∀ {env : EnvD} {S : Sto} {g : Gh} {H : Hp} {σ : L2.St} {Q : L2.It → Hp → Prop}, Rg W g S H → EnvOk W g σ env → ItP W wx σ g S H (evIt (gamW W P n) it env S) Q → uIt X tgx x σ H Q
section
variable {W : Wr} {t : Tb} {P : Pg} {F : Fns} {n : Nat} {l : Lc} {wx : WX} {g g' g1 g2 : Gh} {S S' S1 S2 : Sto} {H H' H1 H2 : Hp} {X : Cx} {v u : V} {vs : List V} {f f1 f2 fp : List Addr} {σ σ' : L2.St} {env : EnvD} {k : Kd} {d : D} {x tgx : Expr} {N : Addr → Prop} {Q : L2.It → Hp → Prop}
theorem off_own (R : Rg W g S H) {lb : Bool} {a : Addr} {o : HO} (q : g.G lb a = some o) : ¬ Own g S a := fun ⟨m, b, lv, ha⟩ => by
  have := R.off m b lv a ha
  rw [R.G_l lb a o q] at this; cases this
theorem sq_out (R : Rg W g S H) {lb : Bool} {a : Addr} {vs : List V} (q : SqL W.K (g.G lb) a vs) : ¬ Own g S a ∨ ∀ H2, SqL W.K H2 a vs := by
  rcases q with (q | ⟨o, q⟩) | q
  · exact .inl (off_own R q)
  · exact .inl (off_own R q)
  · exact .inr fun H2 => .inr q
theorem rvl_settle (R : Rg W g S H) {k : Kd} {l1 l : Bool} {xs : List D} (h : RvL W g.r (g.G l1) xs vs) (e : (if immL xs then some false else some l1) = some l) : RvL W g.r (g.G l) xs vs := by
  by_cases i : immL xs = true
  · rw [if_pos i] at e; cases e
    exact RvL.imm R.tup i (RvL.mono (R.G_h l1) (fun _ _ z => z) h)
  · rw [if_neg i] at e; cases e
    exact h
theorem lst_walk (R : Rg W g S H) {xs : List D} {items : List (Bool × D)} {bo : Option Nat} (h : RK W g S H (k, .lst xs) v f) (fr : Fre g S N f) (e : itemsOf S k xs = some (items, bo)) :
    ∃ a vs g' l, v = .ref a ∧ SqL W.K H a vs ∧ Rg W g' S H ∧ Gr (· ∈ f) g S H g' S H ∧ RvL W g'.r (g'.G l) xs vs ∧ items = xs.map (fun d => (l, d)) ∧ LockOk S bo ∧ (¬ OwnU g' (lockO S bo) a ∨ ∀ H2, SqL W.K H2 a vs) := by
  cases k with
  | vl l' =>
    obtain ⟨l, e1, e2⟩ := Option.map_eq_some_iff.mp (show (settle S (.vl l') xs).map (fun l => (xs.map fun d => (l, d), none)) = some (items, bo) from e)
    cases e2
    obtain ⟨_, a, vs, q1, q2, q3⟩ := h
    exact ⟨a, vs, g, l, q1, ex_l (R.G_h _) q2, R, Gr.refl, rvl_settle (k := .vl l') R q3 e1, rfl, trivial, (sq_out R q2).imp (fun z q => z q.own) id⟩
  | fr j l' =>
    obtain ⟨l, e1, e2⟩ := Option.map_eq_some_iff.mp (show (settle S (.fr j l') xs).map (fun l => (xs.map fun d => (l, d), none)) = some (items, bo) from e)
    cases e2
    have e3 : (if immL xs then some false else some l') = some l := e1
    obtain ⟨g', f', s, R', gr, h', o1, o2, o3, o4⟩ := R.wk (j := 0) (m := l') h fr.nd (fre_T fr) (Nat.zero_le _) (by cases l' <;> rfl)
    obtain ⟨_, a, vs, q1, q2, q3⟩ := h'
    exact ⟨a, vs, g', l, q1, ex_l (R'.G_h _) q2, R', gr, rvl_settle (k := .fr j l') R' q3 e3, rfl, trivial, (sq_out R' q2).imp (fun z q => z q.own) id⟩
  | tn n p =>
    obtain ⟨l, e1, e2⟩ := Option.map_eq_some_iff.mp (show (settle S (.tn n p) xs).map (fun l => (xs.map fun d => (l, d), some n)) = some (items, bo) from e)
    cases e2
    obtain ⟨ef, b, a0, k', h1, h2, h3⟩ := h
    have h1' : S[n]? = some (some b) := h1
    obtain ⟨a', e4, e5⟩ := R.box n b h1
    rw [h2] at e4; cases e4
    obtain ⟨pre, fx, post, ex, e6, _⟩ := e5.focus h3
    have hk := h3.len
    unfold settle at e1
    simp only [h1'] at e1
    have lo : ∀ {a : Addr}, OwnU g (lockO S (some n)) a → OwnU g S a ∧ ∃ m c, m ≠ n ∧ Live S m c ∧ a ∈ g.fp m := fun {a} q => ownU_lock h1 q
    cases k' with
    | zero =>
      obtain ⟨_, a, vs, q1, q2, q3⟩ := e6
      have e7 : (if immL xs then some false else some b.ln) = some l := by
        rw [if_neg (show ¬ (p.length + 1 < b.dp) by omega)] at e1; exact e1
      exact ⟨a, vs, g, l, q1, ex_l (R.G_h _) q2, R, Gr.refl, rvl_settle (k := .tn n p) R q3 e7, rfl, ⟨b, h1⟩, (sq_out R q2).imp (fun z q => z (lo q).1.own) id⟩
    | succ k' =>
      obtain ⟨a, vs, f0, q1, q2, q3, q4⟩ := e6
      have rv : RvL W g.r (g.G l) xs vs := by
        by_cases i : immL xs = true
        · rw [if_pos i] at e1; cases e1
          exact RvL.imm R.tup i (RtL.read (R.G_h b.ln) q4)
        · rw [if_neg i] at e1
          by_cases q : p.length + 1 < b.dp
          · rw [if_pos q] at e1; cases e1
          · rw [if_neg q] at e1; cases e1
            have : k' = 0 := by omega
            subst this
            exact RtL.freeze0 q4
      refine ⟨a, vs, g, l, q1, RvL.sq q3, R, Gr.refl, rv, rfl, ⟨b, h1⟩, .inl fun q => ?_⟩
      obtain ⟨_, m, c, ne, lv, hm⟩ := lo q
      exact R.dis m n c b lv h1 ne a hm (by rw [ex]; exact List.mem_append_left _ (List.mem_append_right _ (by rw [q2]; exact List.mem_cons_self)))
theorem tup_walk (R : Rg W g S H) {xs : List D} {items : List (Bool × D)} {bo : Option Nat} (h : RK W g S H (k, .tup xs) v f) (fr : Fre g S N f) (e : itemsOf S k xs = some (items, bo)) :
    ∃ a vs g' l, v = .ref a ∧ H a = some (.tup vs) ∧ Rg W g' S H ∧ Gr (· ∈ f) g S H g' S H ∧ RvL W g'.r (g'.G l) xs vs ∧ items = xs.map (fun d => (l, d)) ∧ LockOk S bo := by
  have go : ∃ l, settle S k xs = some l ∧ items = xs.map (fun d => (l, d)) ∧ LockOk S bo := by
    cases k with
    | vl l' =>
      obtain ⟨l, e1, e2⟩ := Option.map_eq_some_iff.mp (show (settle S (.vl l') xs).map (fun l => (xs.map fun d => (l, d), none)) = some (items, bo) from e)
      cases e2; exact ⟨l, e1, rfl, trivial⟩
    | fr j l' =>
      obtain ⟨l, e1, e2⟩ := Option.map_eq_some_iff.mp (show (settle S (.fr j l') xs).map (fun l => (xs.map fun d => (l, d), none)) = some (items, bo) from e)
      cases e2; exact ⟨l, e1, rfl, trivial⟩
    | tn n p =>
      obtain ⟨l, e1, e2⟩ := Option.map_eq_some_iff.mp (show (settle S (.tn n p) xs).map (fun l => (xs.map fun d => (l, d), some n)) = some (items, bo) from e)
      cases e2
      obtain ⟨_, b, _, _, h1, _⟩ := h
      exact ⟨l, e1, rfl, b, h1⟩
  obtain ⟨l, e1, e2, e3⟩ := go
  obtain ⟨a, vs, g', h1, h2, h3, h4, h5⟩ := tup_rk R h fr e1
  exact ⟨a, vs, g', l, h1, h2, h3, h4, h5, e2, e3⟩
/-- a list's items, at any turn -/
theorem sq_keep {Sl : Sto} {a : Addr} (h : SqL W.K H a vs) (o : ¬ OwnU g Sl a ∨ ∀ H2, SqL W.K H2 a vs) (k : Gr T0 g Sl H g' S' H') : SqL W.K H' a vs := by
  rcases o with o | o
  · rcases h with (h | ⟨ob, h⟩) | h
    · exact .inl (.inl (k.fr a _ h o id))
    · exact .inl (.inr ⟨ob, k.fr a _ h o id⟩)
    · exact .inr h
  · exact o H'
theorem rvl_at {l1 : Bool} {ds : List D} (h : RvL W g.r (g.G l1) ds vs) {i : Nat} {l : Bool} {d : D} {x : V} (e : (ds.map fun d => (l1, d))[i]? = some (l, d)) (hx : vs[i]? = some x) (k : Gr T0 g S H g' S' H') : Rv W g'.r (g'.G l) d x := by
  rw [List.getElem?_map] at e
  obtain ⟨d', e1, e2⟩ := Option.map_eq_some_iff.mp e
  cases e2
  obtain ⟨x', e3, e4⟩ := h.get e1
  rw [hx] at e3; cases e3
  exact Rv.mono (Gh.G_ex k _) k.r e4
theorem wk_list {Sl : Sto} {a : Addr} {l1 : Bool} {xs : List D} (hs : SqL W.K H a vs) (o : ¬ OwnU g Sl a ∨ ∀ H2, SqL W.K H2 a vs) (rv : RvL W g.r (g.G l1) xs vs) : WkOk W g Sl H (xs.map fun d => (l1, d)) (Itl W.K a) := by
  refine ⟨_, _, by rw [List.length_map, ← rv.length]; exact walk_list, fun g' S' H' R' k => sq_keep hs o k, fun i l d H1 x H2 e y g' S' R' k => ?_⟩
  obtain ⟨rfl, hx⟩ := y
  exact ⟨g', R', Gr.refl, Ex.refl _, rvl_at rv e hx k⟩
theorem wk_rev {Sl : Sto} {a : Addr} {l1 : Bool} {xs : List D} (hs : SqL W.K H a vs) (o : ¬ OwnU g Sl a ∨ ∀ H2, SqL W.K H2 a vs) (rv : RvL W g.r (g.G l1) xs vs) : WkOk W g Sl H (xs.map fun d => (l1, d)).reverse (Itv W.K a vs.length) := by
  have hl := rv.length
  refine ⟨_, _, by rw [List.length_reverse, List.length_map, ← hl]; exact walk_rev, fun g' S' H' R' k => sq_keep hs o k, fun i l d H1 x H2 e y g' S' R' k => ?_⟩
  obtain ⟨rfl, hx⟩ := y
  have hi : i < xs.length := by
    have := (List.getElem?_eq_some_iff.mp e).1
    simpa using this
  rw [List.getElem?_reverse (by simpa using hi), List.length_map] at e
  rw [hl] at hx
  exact ⟨g', R', Gr.refl, Ex.refl _, rvl_at rv e hx k⟩
theorem wk_tup {Sl : Sto} {a : Addr} {l1 : Bool} {xs : List D} (R : Rg W g S H) (hs : H a = some (.tup vs)) (rv : RvL W g.r (g.G l1) xs vs) : WkOk W g Sl H (xs.map fun d => (l1, d)) (Itt W.K a) := by
  refine ⟨_, _, by rw [List.length_map, ← rv.length]; exact walk_tup, fun g' S' H' R' k => TupV.sq (R'.lh _ _ (R'.fl _ _ (k.f _ _ (R.tup _ _ hs)))), fun i l d H1 x H2 e y g' S' R' k => ?_⟩
  obtain ⟨rfl, hx⟩ := y
  exact ⟨g', R', Gr.refl, Ex.refl _, rvl_at rv e hx k⟩
theorem wk_str {Sl : Sto} {z : Str} : WkOk W g Sl H (z.cps.toList.map fun c => (false, .str ⟨#[c]⟩)) (Its z) := by
  refine ⟨_, _, by rw [List.length_map, Array.length_toList]; exact walk_str, fun g' S' H' R' k => trivial, fun i l d H1 x H2 e y g' S' R' k => ?_⟩
  obtain ⟨rfl, c, hc, rfl⟩ := y
  refine ⟨g', R', Gr.refl, Ex.refl _, ?_⟩
  rw [List.getElem?_map, Array.getElem?_toList, hc] at e
  cases e
  rfl
theorem wk_rng {Sl : Sto} {lo : Int} {m : Nat} : WkOk W g Sl H ((List.range m).map fun (i : Nat) => (false, D.int (lo + i))) (Itr lo m) := by
  refine ⟨_, _, by rw [List.length_map, List.length_range]; exact walk_range, fun g' S' H' R' k => trivial, fun i l d H1 x H2 e y g' S' R' k => ?_⟩
  obtain ⟨rfl, rfl⟩ := y
  refine ⟨g', R', Gr.refl, Ex.refl _, ?_⟩
  rw [List.getElem?_map] at e
  obtain ⟨j, e1, e2⟩ := Option.map_eq_some_iff.mp e
  obtain ⟨hj, rfl⟩ := List.getElem?_eq_some_iff.mp e1
  cases e2
  rw [List.getElem_range]
  rfl
theorem enuL_get : ∀ {xs : List (Bool × D)} {j i : Nat} {l : Bool} {d : D}, (enuL j xs)[i]? = some (l, d) → ∃ d', xs[i]? = some (l, d') ∧ d = .tup [.int (j + i : Nat), d']
  | [], _, _, _, _, e => by cases e
  | (l0, d0) :: r, j, 0, l, d, e => by
    cases e
    exact ⟨d0, rfl, rfl⟩
  | (l0, d0) :: r, j, i + 1, l, d, e => by
    obtain ⟨d', h1, h2⟩ := enuL_get (xs := r) (j := j + 1) (i := i) e
    exact ⟨d', h1, by rw [h2, show j + 1 + i = j + (i + 1) by omega]⟩
theorem enuL_len : ∀ {xs : List (Bool × D)} {j : Nat}, (enuL j xs).length = xs.length
  | [], _ => rfl
  | _ :: _, _ => congrArg (· + 1) enuL_len
theorem wk_enu {Sl : Sto} {a : Addr} {l1 : Bool} {xs : List D} (hs : SqL W.K H a vs) (o : ¬ OwnU g Sl a ∨ ∀ H2, SqL W.K H2 a vs) (rv : RvL W g.r (g.G l1) xs vs) : WkOk W g Sl H (enuL 0 (xs.map fun d => (l1, d))) (Ite W.K a) := by
  refine ⟨_, _, by rw [enuL_len, List.length_map, ← rv.length]; exact walk_enum, fun g' S' H' R' k => sq_keep hs o k, fun i l d H1 x H2 e y g' S' R' k => ?_⟩
  obtain ⟨T, x1, x2, rfl, hT, rfl, e1, e2⟩ := y
  obtain ⟨d', e3, rfl⟩ := enuL_get e
  obtain ⟨R2, gr2, e4⟩ := R'.tupN (vs := [x1, x2]) hT
  have r2 := rvl_at rv e3 e2 (k.trans0 gr2)
  cases e1
  exact ⟨_, R2, gr2, Ex.new hT, T, [.int (i : Nat), x2], rfl, e4 l, .int (i : Nat), [x2], rfl, by rw [Nat.zero_add]; rfl, x2, [], rfl, r2, rfl⟩
theorem plain_one {e : Expr} {env : Env} (h : plainE e = true) : starEach [e] env = [(false, eval e env)] := by rw [star_cons h]; rfl
theorem case_seq {e : E} (ih : EvS W t P F n e) : ItS W t P F n (.seq e) := fun {X l wx} C {tgx x} hm _ {env S g H σ Q} R eo h => by
  have hm' : (plainE x && mE t P l e x && itPlain x) = true := hm
  simp only [Bool.and_eq_true] at hm'
  obtain ⟨⟨m1, m2⟩, m3⟩ := hm'
  have h' : ItP W wx σ g S H ((ev (gamW W P n) e env S).bind fun (k, d, S1, m) => (ofO (der S1 (k, d))).bind fun (k, d) => match d with
    | .lst xs => (ofO (itemsOf S1 k xs)).bind fun r => .ok (r.1, r.2, S1, m)
    | .tup xs => (ofO (itemsOf S1 k xs)).bind fun r => .ok (r.1, r.2, S1, m)
    | .str z => .ok (z.cps.toList.map fun c => (false, .str ⟨#[c]⟩), none, S1, m)
    | _ => .stuck) Q := h
  cases e1 : ev (gamW W P n) e env S with
  | stuck => rw [e1] at h'; exact h'.elim
  | exc c S1 =>
    rw [e1] at h'
    refine uIt_of (pi_list pe_u) (ih C m2 R eo ?_)
    rw [e1]; exact h'
  | ok r1 =>
    obtain ⟨k, d, S1, m⟩ := r1
    rw [e1] at h'
    have h2 : ItP W wx σ g S H ((ofO (der S1 (k, d))).bind fun (k, d) => match (generalizing := false) d with
      | .lst xs => (ofO (itemsOf S1 k xs)).bind fun r => .ok (r.1, r.2, S1, m)
      | .tup xs => (ofO (itemsOf S1 k xs)).bind fun r => .ok (r.1, r.2, S1, m)
      | .str z => .ok (z.cps.toList.map fun c => (false, .str ⟨#[c]⟩), none, S1, m)
      | _ => .stuck) Q := h'
    cases e2 : der S1 (k, d) with
    | none => rw [e2] at h2; exact h2.elim
    | some a =>
      obtain ⟨k1, d1⟩ := a
      rw [e2] at h2
      have h3 : ItP W wx σ g S H (match (generalizing := false) d1 with
        | .lst xs => (ofO (itemsOf S1 k1 xs)).bind fun r => .ok (r.1, r.2, S1, m)
        | .tup xs => (ofO (itemsOf S1 k1 xs)).bind fun r => .ok (r.1, r.2, S1, m)
        | .str z => .ok (z.cps.toList.map fun c => (false, .str ⟨#[c]⟩), none, S1, m)
        | _ => .stuck) Q := h2
      cases d1 <;> first
        | (exact h3.elim; done)
        | skip
      · refine uIt_of (pi_str pe_u) (ih C m2 R eo ?_)
        rw [e1]
        intro g1 H1 v fp R1 gr1 hm1 rk1 fr1
        have rk2 := rk1.der R1 e2
        exact ⟨_, rk_str R1 rk2, h3 g1 H1 _ R1 gr1 hm1 trivial wk_str⟩
      · rename_i xs
        refine uIt_of (pi_tup pe_u) (ih C m2 R eo ?_)
        rw [e1]
        intro g1 H1 v fp R1 gr1 hm1 rk1 fr1
        have rk2 := rk1.der R1 e2
        have h4 : ItP W wx σ g S H ((ofO (itemsOf S1 k1 xs)).bind fun r => .ok (r.1, r.2, S1, m)) Q := h3
        cases e3 : itemsOf S1 k1 xs with
        | none => rw [e3] at h4; exact h4.elim
        | some r =>
          obtain ⟨items, bo⟩ := r
          rw [e3] at h4
          obtain ⟨a, vs, g', lb, rfl, hs, R', gr', rv, rfl, lk⟩ := tup_walk R1 rk2 fr1 e3
          exact ⟨a, rfl, ⟨vs, TupV.sq hs⟩, by rw [C.K]; exact h4 g' H1 _ R' (gr1.trans1 fr1 gr') hm1 lk (wk_tup R' hs rv)⟩
      · rename_i xs
        refine uIt_of (pi_list pe_u) (ih C m2 R eo ?_)
        rw [e1]
        intro g1 H1 v fp R1 gr1 hm1 rk1 fr1
        have rk2 := rk1.der R1 e2
        have h4 : ItP W wx σ g S H ((ofO (itemsOf S1 k1 xs)).bind fun r => .ok (r.1, r.2, S1, m)) Q := h3
        cases e3 : itemsOf S1 k1 xs with
        | none => rw [e3] at h4; exact h4.elim
        | some r =>
          obtain ⟨items, bo⟩ := r
          rw [e3] at h4
          obtain ⟨a, vs, g', lb, rfl, hs, R', gr', rv, rfl, lk, o⟩ := lst_walk R1 rk2 fr1 e3
          exact ⟨a, rfl, ⟨vs, by rw [C.K]; exact hs⟩, by rw [C.K]; exact h4 g' H1 _ R' (gr1.trans1 fr1 gr') hm1 lk (wk_list hs o rv)⟩
theorem case_enu {e : E} (ih : EvS W t P F n e) : ItS W t P F n (.enu e) := fun {X l wx} C {tgx x} hm ht {env S g H σ Q} R eo h => by
  have hm' : (match (generalizing := false) x with
    | .Call (.Name y _) [a] [] _ => decide (y = "enumerate") && gloB l y && decide (y ∈ t.free) && plainE a && mE t P l e a
    | _ => false) = true := by
    cases x <;> first
      | (cases hm; done)
      | skip
    rename_i fn as ks pos
    cases fn <;> first
      | (cases hm; done)
      | skip
    rcases as with _ | ⟨a, _ | ⟨b, r⟩⟩ <;> cases ks <;> first
      | (cases hm; done)
      | exact hm
  split at hm'
  · rename_i y p a pos
    simp only [Bool.and_eq_true, decide_eq_true_eq] at hm'
    obtain ⟨⟨⟨⟨rfl, m1⟩, m2⟩, m3⟩, m4⟩ := hm'
    have ht := ht rfl
    cases tgx <;> first
      | (cases ht; done)
      | skip
    refine uIt_of (pi_enum (glo_of C.toFt m1) (C.free _ m2) (pa_u (es := [a]) (by simp [m3])) (plain_one m3)) (ih C m4 R eo ?_)
    have h' : ItP W wx σ g S H ((ev (gamW W P n) e env S).bind fun (k, d, S1, m) => (ofO (der S1 (k, d))).bind fun (k, d) => match d with
      | .lst xs => (ofO (itemsOf S1 k xs)).bind fun r => .ok (enuL 0 r.1, r.2, S1, m)
      | _ => .stuck) Q := h
    cases e1 : ev (gamW W P n) e env S with
    | stuck => rw [e1] at h'; exact h'.elim
    | exc c S1 => rw [e1] at h'; exact h'
    | ok r1 =>
      obtain ⟨k, d, S1, m⟩ := r1
      rw [e1] at h'
      intro g1 H1 v fp R1 gr1 hm1 rk1 fr1
      have h2 : ItP W wx σ g S H ((ofO (der S1 (k, d))).bind fun (k, d) => match (generalizing := false) d with
        | .lst xs => (ofO (itemsOf S1 k xs)).bind fun r => .ok (enuL 0 r.1, r.2, S1, m)
        | _ => .stuck) Q := h'
      cases e2 : der S1 (k, d) with
      | none => rw [e2] at h2; exact h2.elim
      | some a =>
        obtain ⟨k1, d1⟩ := a
        rw [e2] at h2
        have h3 : ItP W wx σ g S H (match (generalizing := false) d1 with
          | .lst xs => (ofO (itemsOf S1 k1 xs)).bind fun r => .ok (enuL 0 r.1, r.2, S1, m)
          | _ => .stuck) Q := h2
        cases d1 <;> first
          | (exact h3.elim; done)
          | skip
        rename_i xs
        have rk2 := rk1.der R1 e2
        have h4 : ItP W wx σ g S H ((ofO (itemsOf S1 k1 xs)).bind fun r => .ok (enuL 0 r.1, r.2, S1, m)) Q := h3
        cases e3 : itemsOf S1 k1 xs with
        | none => rw [e3] at h4; exact h4.elim
        | some r =>
          obtain ⟨items, bo⟩ := r
          rw [e3] at h4
          obtain ⟨a, vs, g', lb, rfl, hs, R', gr', rv, rfl, lk, o⟩ := lst_walk R1 rk2 fr1 e3
          exact ⟨a, vs, rfl, by rw [C.K]; exact hs, by rw [C.K]; exact h4 g' H1 _ R' (gr1.trans1 fr1 gr') hm1 lk (wk_enu hs o rv)⟩
  · cases hm'
theorem case_rev {e : E} (ih : EvS W t P F n e) : ItS W t P F n (.rev e) := fun {X l wx} C {tgx x} hm ht {env S g H σ Q} R eo h => by
  have hm' : (match (generalizing := false) x with
    | .Call (.Name y _) [a] [] _ => decide (y = "reversed") && gloB l y && decide (y ∈ t.free) && plainE a && mE t P l e a
    | _ => false) = true := by
    cases x <;> first
      | (cases hm; done)
      | skip
    rename_i fn as ks pos
    cases fn <;> first
      | (cases hm; done)
      | skip
    rcases as with _ | ⟨a, _ | ⟨b, r⟩⟩ <;> cases ks <;> first
      | (cases hm; done)
      | exact hm
  split at hm'
  · rename_i y p a pos
    simp only [Bool.and_eq_true, decide_eq_true_eq] at hm'
    obtain ⟨⟨⟨⟨rfl, m1⟩, m2⟩, m3⟩, m4⟩ := hm'
    refine uIt_of (pi_reversed (glo_of C.toFt m1) (C.free _ m2) (pa_u (es := [a]) (by simp [m3])) (plain_one m3)) (ih C m4 R eo ?_)
    have h' : ItP W wx σ g S H ((ev (gamW W P n) e env S).bind fun (k, d, S1, m) => (ofO (der S1 (k, d))).bind fun (k, d) => match d with
      | .lst xs => (ofO (itemsOf S1 k xs)).bind fun r => .ok (r.1.reverse, r.2, S1, m)
      | _ => .stuck) Q := h
    cases e1 : ev (gamW W P n) e env S with
    | stuck => rw [e1] at h'; exact h'.elim
    | exc c S1 => rw [e1] at h'; exact h'
    | ok r1 =>
      obtain ⟨k, d, S1, m⟩ := r1
      rw [e1] at h'
      intro g1 H1 v fp R1 gr1 hm1 rk1 fr1
      have h2 : ItP W wx σ g S H ((ofO (der S1 (k, d))).bind fun (k, d) => match (generalizing := false) d with
        | .lst xs => (ofO (itemsOf S1 k xs)).bind fun r => .ok (r.1.reverse, r.2, S1, m)
        | _ => .stuck) Q := h'
      cases e2 : der S1 (k, d) with
      | none => rw [e2] at h2; exact h2.elim
      | some a =>
        obtain ⟨k1, d1⟩ := a
        rw [e2] at h2
        have h3 : ItP W wx σ g S H (match (generalizing := false) d1 with
          | .lst xs => (ofO (itemsOf S1 k1 xs)).bind fun r => .ok (r.1.reverse, r.2, S1, m)
          | _ => .stuck) Q := h2
        cases d1 <;> first
          | (exact h3.elim; done)
          | skip
        rename_i xs
        have rk2 := rk1.der R1 e2
        have h4 : ItP W wx σ g S H ((ofO (itemsOf S1 k1 xs)).bind fun r => .ok (r.1.reverse, r.2, S1, m)) Q := h3
        cases e3 : itemsOf S1 k1 xs with
        | none => rw [e3] at h4; exact h4.elim
        | some r =>
          obtain ⟨items, bo⟩ := r
          rw [e3] at h4
          obtain ⟨a, vs, g', lb, rfl, hs, R', gr', rv, rfl, lk, o⟩ := lst_walk R1 rk2 fr1 e3
          exact ⟨a, vs, rfl, by rw [C.K]; exact hs, by rw [C.K]; exact h4 g' H1 _ R' (gr1.trans1 fr1 gr') hm1 lk (wk_rev hs o rv)⟩
  · cases hm'
theorem case_rng {es : List E} (ih : EvsS W t P F n es) : ItS W t P F n (.rng es) := fun {X l wx} C {tgx x} hm ht {env S g H σ Q} R eo h => by
  have hm' : (match (generalizing := false) x with
    | .Call (.Name y _) as [] _ => decide (y = "range") && gloB l y && decide (y ∈ t.free) && as.all plainE && as.length.ble 2 && mEs t P l es as
    | _ => false) = true := by
    cases x <;> first
      | (cases hm; done)
      | skip
    rename_i fn as ks pos
    cases fn <;> first
      | (cases hm; done)
      | skip
    rcases as with _ | ⟨a, _ | ⟨b, r⟩⟩ <;> cases ks <;> first
      | (cases hm; done)
      | exact hm
  split at hm'
  · rename_i y p as pos
    simp only [Bool.and_eq_true, decide_eq_true_eq] at hm'
    obtain ⟨⟨⟨⟨⟨rfl, m1⟩, m2⟩, m3⟩, m5⟩, m4⟩ := hm'
    have h' : ItP W wx σ g S H ((evs (gamW W P n) es env S).bind fun (as, S1, m) => match as with
      | [(_, .int n)] => if -(2 ^ 62) ≤ n ∧ n < 2 ^ 62 then .ok ((List.range n.toNat).map fun (i : Nat) => (false, D.int i), none, S1, m) else .stuck
      | [(_, .int a), (_, .int b)] => if -(2 ^ 62) ≤ a ∧ a < 2 ^ 62 ∧ -(2 ^ 62) ≤ b ∧ b < 2 ^ 62 then .ok ((List.range (b - a).toNat).map fun (i : Nat) => (false, D.int (a + i)), none, S1, m) else .stuck
      | _ => .stuck) Q := h
    have len : ∀ {es : List E} {as : List Expr}, mEs t P l es as = true → es.length = as.length := fun {es} => by
      induction es with
      | nil => intro as h; cases as <;> first | rfl | cases h
      | cons e es ih =>
        intro as h
        cases as with
        | nil => cases h
        | cons a as => simp only [List.length_cons]; rw [ih (Bool.and_eq_true_iff.mp (show (mE t P l e a && mEs t P l es as) = true from h)).2]
    have hlen := len m4
    have evlen : ∀ {es : List E} {as : List Vd} {S S1 : Sto} {m : Bool}, evs (gamW W P n) es env S = .ok (as, S1, m) → as.length = es.length := fun {es} => by
      induction es with
      | nil => intro as S S1 m h; cases h; rfl
      | cons e es ih =>
        intro as S S1 m h
        obtain ⟨⟨k, d, S2, m1⟩, h1, h2⟩ := bind_ok (show (ev (gamW W P n) e env S).bind _ = .ok (as, S1, m) from h)
        obtain ⟨⟨as2, S3, m2⟩, h3, h4⟩ := bind_ok h2
        have h5 : (if (m2 && isTn (k, d)) = true then Z.R.stuck else .ok ((k, d) :: as2, S3, m1 || m2)) = .ok (as, S1, m) := h4
        split at h5
        · cases h5
        · cases h5
          simp only [List.length_cons]
          rw [ih h3]
    cases e1 : evs (gamW W P n) es env S with
    | stuck => rw [e1] at h'; exact h'.elim
    | exc c S1 =>
      rw [e1] at h'
      rcases as with _ | ⟨a, _ | ⟨b, _ | ⟨c', r⟩⟩⟩
      · have : es = [] := by cases es <;> first | rfl | cases hlen
        subst this; cases e1
      · simp only [List.all_cons, List.all_nil, Bool.and_true] at m3
        refine uIt_of (pi_range1 (glo_of C.toFt m1) (C.free _ m2) (pa_u (es := [a]) (by simp [m3])) (plain_one m3)) (ih C m4 R eo ?_)
        rw [e1]; exact h'
      · simp only [List.all_cons, List.all_nil, Bool.and_true, Bool.and_eq_true] at m3
        refine uIt_of (pi_range2 (glo_of C.toFt m1) (C.free _ m2) (pa_u (es := [a, b]) (by simp [m3.1, m3.2])) (by rw [star_cons m3.1, plain_one m3.2]) (plain_one m3.2)) (ih C m4 R eo ?_)
        rw [e1]; exact h'
      · cases m5
    | ok r1 =>
      obtain ⟨ds, S1, m⟩ := r1
      have hl2 := evlen e1
      rw [e1] at h'
      have h2 : ItP W wx σ g S H (match (generalizing := false) ds with
        | [(_, .int n)] => if -(2 ^ 62) ≤ n ∧ n < 2 ^ 62 then .ok ((List.range n.toNat).map fun (i : Nat) => (false, D.int i), none, S1, m) else .stuck
        | [(_, .int a), (_, .int b)] => if -(2 ^ 62) ≤ a ∧ a < 2 ^ 62 ∧ -(2 ^ 62) ≤ b ∧ b < 2 ^ 62 then .ok ((List.range (b - a).toNat).map fun (i : Nat) => (false, D.int (a + i)), none, S1, m) else .stuck
        | _ => .stuck) Q := h'
      split at h2
      · rename_i k1 j
        rcases as with _ | ⟨a, _ | ⟨b, r⟩⟩
        · exact absurd (hl2.trans hlen) (by simp)
        · simp only [List.all_cons, List.all_nil, Bool.and_true] at m3
          refine uIt_of (pi_range1 (glo_of C.toFt m1) (C.free _ m2) (pa_u (es := [a]) (by simp [m3])) (plain_one m3)) (ih C m4 R eo ?_)
          rw [e1]
          intro g1 H1 vs fp R1 gr1 hm1 rk1 fr1
          obtain ⟨v, ws, f1, f2, rfl, rfl, rk1, rfl, rfl⟩ := rk1
          by_cases q : -(2 ^ 62) ≤ j ∧ j < 2 ^ 62
          · rw [if_pos q] at h2
            refine ⟨j, by rw [rk_int R1 rk1], q.1, q.2, h2 g1 H1 _ R1 gr1 hm1 trivial ?_⟩
            have := wk_rng (W := W) (g := g1) (Sl := S1) (H := H1) (lo := 0) (m := j.toNat)
            show WkOk W g1 S1 H1 _ _
            simpa using this
          · rw [if_neg q] at h2; exact h2.elim
        · exact absurd (hl2.trans hlen) (by simp)
      · rename_i k1 j1 k2 j2
        rcases as with _ | ⟨a, _ | ⟨b, _ | ⟨c', r⟩⟩⟩
        · exact absurd (hl2.trans hlen) (by simp)
        · exact absurd (hl2.trans hlen) (by simp)
        · simp only [List.all_cons, List.all_nil, Bool.and_true, Bool.and_eq_true] at m3
          refine uIt_of (pi_range2 (glo_of C.toFt m1) (C.free _ m2) (pa_u (es := [a, b]) (by simp [m3.1, m3.2])) (by rw [star_cons m3.1, plain_one m3.2]) (plain_one m3.2)) (ih C m4 R eo ?_)
          rw [e1]
          intro g1 H1 vs fp R1 gr1 hm1 rk1 fr1
          obtain ⟨v, ws, f1, f2, rfl, rfl, rk1, v2, ws2, f3, f4, rfl, rfl, rk2, rfl, rfl⟩ := rk1
          by_cases q : -(2 ^ 62) ≤ j1 ∧ j1 < 2 ^ 62 ∧ -(2 ^ 62) ≤ j2 ∧ j2 < 2 ^ 62
          · rw [if_pos q] at h2
            exact ⟨j1, j2, by rw [rk_int R1 rk1, rk_int R1 rk2], q, h2 g1 H1 _ R1 gr1 hm1 trivial wk_rng⟩
          · rw [if_neg q] at h2; exact h2.elim
        · exact absurd (hl2.trans hlen) (by simp)
      · exact h2.elim
  · cases hm'
end
end Z

namespace Z
open PySem L2 PySem.Spec PyProof.Rows
def uTs (X : Cx) (ifs : List Expr) : TT := fun σ H Q => ∀ (pins : List (Addr × Obj)) (s : Shared), Inv X pins σ H s →
    wpAny (model X.prog X.w) X.A (forIn ifs true fun c r => if r = true then do let ok ← isTrue c X.env (eval c X.env); pure (ForInStep.yield ok) else pure (ForInStep.yield r)) (TP X pins σ Q) X.xe s
theorem pts_u {X : Cx} {ifs : List Expr} : PTs X ifs (uTs X ifs) := ⟨fun pins s σ H Q I h => h pins s I⟩
theorem uTs_of {X : Cx} {ifs : List Expr} {t : TT} (p : PTs X ifs t) {σ : L2.St} {H : Hp} {Q : Bool → Hp → Prop} (h : t σ H Q) : uTs X ifs σ H Q := fun pins s I => p.run pins s σ H Q I h
section
variable {W : Wr} {t : Tb} {P : Pg} {F : Fns} {n : Nat} {l : Lc} {wx : WX} {g g' g1 g2 : Gh} {S S' S1 S2 : Sto} {H H' H1 H2 : Hp} {X : Cx} {v u : V} {vs : List V} {f f1 f2 fp : List Addr} {σ σ' : L2.St} {env : EnvD} {k : Kd} {d : D} {x tgx : Expr} {N : Addr → Prop} {ρ : Rho} {G : Hp} {T : Addr → Prop}
theorem RtL.snoc {d : D} {v : V} {f2 : List Addr} {k : Nat} : ∀ {ds : List D} {vs : List V} {f : List Addr}, RtL W ρ G H ds k vs f → Rt W ρ G H d k v f2 → RtL W ρ G H (ds ++ [d]) k (vs ++ [v]) (f ++ f2)
  | [], _, _, ⟨h1, h2⟩, r => by subst h1 h2; exact ⟨v, [], f2, [], rfl, by simp, r, rfl, rfl⟩
  | _ :: _, _, _, ⟨v1, ws, f3, f4, h1, h2, h3, h4⟩, r => ⟨v1, ws ++ [v], f3, f4 ++ f2, by rw [h1]; rfl, by rw [h2, List.append_assoc], h3, RtL.snoc h4 r⟩
/-- nobody's cell, written -/
theorem Rg.put (R : Rg W g S H) {p : Addr} {o o' : HO} (hp : H p = some o') (nt : NoTup o) (hl : g.L p = none) (no : ¬ Own g S p) : Rg W g S (upd H p o) := by
  have ex : Ex g.L (upd H p o) := fun a u e => by
    by_cases q : a = p
    · subst q; rw [hl] at e; cases e
    · rw [upd_ne q]; exact R.lh a u e
  refine ⟨R.fl, ex, fun a xs e => ?_, fun n b lv => ?_, R.nd, R.dis, R.off, R.rho⟩
  · by_cases q : a = p
    · subst q
      rw [upd_same] at e
      cases e; exact nt.elim
    · rw [upd_ne q] at e; exact R.tup a xs e
  · obtain ⟨a, h1, h2⟩ := R.box n b lv
    refine ⟨a, h1, Rt.mono (Ex.refl _) (fun _ _ z => z) (fun c hc u e => ?_) h2⟩
    rw [upd_ne (by rintro rfl; exact no ⟨n, b, lv, hc⟩)]; exact e
theorem Gr.put (h : Gr T g S H g' S' H') {p : Addr} {o : HO} (hp : H p = none) : Gr T g S H g' S' (upd H' p o) := ⟨h.f, h.l, h.r, fun a u e no nt => by
  rw [upd_ne (ne_of_none e hp)]; exact h.fr a u e no nt, h.fo, h.lo, h.oo, h.lk, h.len⟩
theorem Ex.put (h : Ex H H') {p : Addr} {o : HO} (hp : H p = none) : Ex H (upd H' p o) := fun a u e => by
  rw [upd_ne (ne_of_none e hp)]; exact h a u e
theorem unlockO {bo : Option Nat} (lk : LockOk S bo) (R : Rg W g' (lockO S bo) H') (h : Gr T0 g (lockO S bo) H g' (lockO S bo) H') : Rg W g' S H' ∧ Gr T0 g S H g' S H' ∧ (∀ a, Own g' S a → Own g' (lockO S bo) a) ∧ (∀ a, OwnU g (lockO S bo) a → OwnU g S a) := by
  cases bo with
  | none => exact ⟨R, h, fun _ z => z, fun _ z => z⟩
  | some n =>
    obtain ⟨b, lv⟩ := lk
    have hb := lockB_back lv
    obtain ⟨k1, k2⟩ := Gr.unlock lv h
    rw [show lockO S (some n) = lockB S n true from rfl] at R k1 k2
    have R1 := R.lock (n := n) k2 (lockOf S n)
    rw [hb] at R1 k1
    refine ⟨R1, k1, fun a ⟨m, c, h1, h2⟩ => ?_, fun a z => (ownU_lock lv z).1⟩
    by_cases q : m = n
    · subst q
      exact ⟨m, { b with lk := true }, (lockB_live lv).mpr (.inl ⟨rfl, rfl⟩), h2⟩
    · exact ⟨m, c, (lockB_live lv).mpr (.inr ⟨q, h1⟩), h2⟩
theorem lockO_rg {bo : Option Nat} (lk : LockOk S bo) (R : Rg W g S H) : Rg W g (lockO S bo) H := by
  cases bo with
  | none => exact R
  | some n => obtain ⟨b, lv⟩ := lk; exact R.lock lv true
theorem Cf.blk (C : Cf X W t P F n l wx) (hc : l.hot = false) (s : Shared) (H : Hp) (sc : Scope) (C0 : Addr) (cl : List (Str × Addr)) (fp : List Addr) : Cf (X.blk s H sc (compEnvC sc cl C0 X.env) fp) W t P F n (l.sub sc) (fun _ _ _ _ => False) where
  K := C.K
  N := C.N
  nd := C.nd
  sc := by
    show relS sc X.env.scope = rel sc l.sc
    rw [C.sc]; rfl
  calm := C.calm
  un := C.un
  free := C.free
  con := C.con
  fl := C.fl
  room := C.room
  tk := takes0
  own := PassesOwn.never
  exc := C.exc
  fnx := rfl
  ok := C.ok
  hotq := fun z => absurd (show l.hot = true from z) (by rw [hc]; decide)
  xfa := C.xfa
  xfn := C.xfn
  psl := C.psl
  mgf := C.mgf
  bnd := C.bnd
  mth := C.mth
  cls := C.cls
  mkc := C.mkc
def CdC (W : Wr) (g : Gh) (S : Sto) (H : Hp) (r : R Bool) (Q : Bool → Hp → Prop) : Prop := match r with
  | .ok b => ∀ (g' : Gh) (H' : Hp), Rg W g' S H' → Gr T0 g S H g' S H' → Ex H H' → Q b H'
  | _ => False
theorem tests_ok {cs : List Cd} (ih : ∀ c ∈ cs, CdS W t P F n c) (C : Cf X W t P F n l wx) {xs : List Expr} (hm : mCs t P l cs xs = true) {Q : Bool → Hp → Prop} (R : Rg W g S H) (eo : EnvOk W g σ env) (h : CdC W g S H (evC (gamW W P n) cs env S) Q) : uTs X xs σ H Q := by
  rcases cs with _ | ⟨c, _ | ⟨c2, r⟩⟩
  · cases xs with
    | cons _ _ => cases hm
    | nil => exact uTs_of pts_nil (h g H R Gr.refl (Ex.refl _))
  · rcases xs with _ | ⟨x, _ | ⟨y, r⟩⟩
    · cases hm
    · refine uTs_of (pts_one pt_u) (ih c List.mem_cons_self C (x := x) hm R eo ?_)
      have h' : CdC W g S H ((tst (gamW W P n) c env S).bind fun (b, _, m) => if m then .stuck else if b then .ok true else .ok false) Q := h
      cases e : tst (gamW W P n) c env S with
      | stuck => rw [e] at h'; exact h'.elim
      | exc c S1 => rw [e] at h'; exact h'.elim
      | ok r =>
        obtain ⟨b, S1, m⟩ := r
        rw [e] at h'
        have h2 : CdC W g S H (if m = true then .stuck else if b then .ok true else .ok false) Q := h'
        cases m with
        | true => exact h2.elim
        | false =>
          intro g' H' R' gr hm'
          obtain ⟨rfl, ex⟩ := hm' rfl
          cases b <;> exact h2 g' H' R' gr ex
    · cases hm
  · exfalso
    rcases xs with _ | ⟨x, _ | ⟨y, r⟩⟩ <;> cases hm
theorem ownL_ix {tg : List Nat} : (ownL l tg).map (·.2) = tg := by
  unfold ownL
  rw [List.map_map]
  exact List.map_id _
theorem pe_lcU {elt tg iter : Expr} {ifs : List Expr} {scope : Scope} {tgs : List Nat} {pos : Pos} {gx : TG} (C : Cf X W t P F n l wx) (hc : l.hot = false) (ok : BlkOk X.N X.env.scope scope (ownL l tgs))
    (hg : ∀ (s : Shared) (H : Hp) (C : Addr) (cl : List (Str × Addr)) (fp : List Addr), PG (X.blk s H scope (compEnvC scope cl C X.env) fp) tg gx) (hs : itPlain iter = true) :
    PE X (.ListComp elt [⟨tg, iter, ifs, 0⟩] scope pos) (tLc (uIt X tg iter) gx (fun σ H Q => ∀ (s : Shared) (H0 : Hp) (C : Addr) (cl : List (Str × Addr)) (fp : List Addr), uTs (X.blk s H0 scope (compEnvC scope cl C X.env) fp) ifs σ H Q)
      (fun σ H Q => ∀ (s : Shared) (H0 : Hp) (C : Addr) (cl : List (Str × Addr)) (fp : List Addr), uE (X.blk s H0 scope (compEnvC scope cl C X.env) fp) elt σ H Q) tgs) := by
  have h := pe_lc (elt := elt) (pos := pos) (C.calm hc) (by rw [C.N]; exact C.nd) (pi_u (X := X) (tg := tg) (x := iter)) ok hg (tt := fun σ H Q => ∀ (s : Shared) (H0 : Hp) (C : Addr) (cl : List (Str × Addr)) (fp : List Addr), uTs (X.blk s H0 scope (compEnvC scope cl C X.env) fp) ifs σ H Q)
    (fun s H C cl fp => ⟨fun pins s' σ H Q I h => pts_u.run pins s' σ H Q I (h s _ C cl fp)⟩) (te := fun σ H Q => ∀ (s : Shared) (H0 : Hp) (C : Addr) (cl : List (Str × Addr)) (fp : List Addr), uE (X.blk s H0 scope (compEnvC scope cl C X.env) fp) elt σ H Q)
    (fun s H C cl fp => ⟨fun pins s' σ H Q I h => pe_u.run pins s' σ H Q I (h s _ C cl fp)⟩) (by
      intro x
      cases iter <;> first
        | rfl
        | cases hs)
  rw [ownL_ix] at h
  exact h
theorem mIt_plain {it : It} {x : Expr} (h : mIt t P l it x = true) : itPlain x = true := by
  cases it with
  | seq e =>
    have hm' : (plainE x && mE t P l e x && itPlain x) = true := h
    exact (Bool.and_eq_true_iff.mp hm').2
  | _ => cases x <;> first
    | rfl
    | cases h
theorem mTg_tup {tg : List Nat} {x : Expr} (h : mTg l tg true x = true) : isTup x = true := by
  cases x <;> first
    | rfl
    | cases h
def LcT (X : Cx) (tg : List Nat) (tp : Bool) (tgx itx : Expr) (ifx : List Expr) (sc : Scope) (x0 : Expr) : TE := tLc (uIt X tgx itx) (tgG X.K tg tp) (fun σ H Q => ∀ (s : Shared) (H0 : Hp) (C : Addr) (cl : List (Str × Addr)) (fp : List Addr), uTs (X.blk s H0 sc (compEnvC sc cl C X.env) fp) ifx σ H Q)
      (fun σ H Q => ∀ (s : Shared) (H0 : Hp) (C : Addr) (cl : List (Str × Addr)) (fp : List Addr), uE (X.blk s H0 sc (compEnvC sc cl C X.env) fp) x0 σ H Q) tg
theorem lc_form {l : Lc} {dp : Nat} {ln : Bool} {tg : List Nat} {tp : Bool} {it : It} {ifs : List Cd} {elt : E} {x : Expr} (hm : mE t P l (.lc dp ln tg tp it ifs elt) x = true) : ∃ x0 tgx itx ifx sc pos, x = .ListComp x0 [⟨tgx, itx, ifx, 0⟩] sc pos ∧ (!l.hot && decide tg.Nodup && blkC l.N l.sc sc (ownL l tg) && mTg (l.sub sc) tg tp tgx && enuOk it tp && mIt t P l it itx && mCs t P (l.sub sc) ifs ifx && mE t P (l.sub sc) elt x0) = true := by
    cases x <;> first
      | (cases hm; done)
      | skip
    rename_i x0 gs sc pos
    rcases gs with _ | ⟨⟨tgx, itx, ifx, as⟩, _ | ⟨g2, r⟩⟩
    · cases hm
    · cases as with
      | negSucc _ => cases hm
      | ofNat k =>
        cases k with
        | zero => exact ⟨x0, tgx, itx, ifx, sc, pos, rfl, hm⟩
        | succ _ => cases hm
    · cases as with
      | negSucc _ => cases hm
      | ofNat k => cases k <;> cases hm
theorem lc_run {dp : Nat} {ln : Bool} {tg : List Nat} {tp : Bool} {it : It} {ifs : List Cd} {elt : E} (ihit : ItS W t P F n it) (ihc : ∀ c ∈ ifs, CdS W t P F n c) (ihe : EvS W t P F n elt) (C : Cf X W t P F n l wx) {x0 tgx itx : Expr} {ifx : List Expr} {sc : Scope}
    (hm' : (!l.hot && decide tg.Nodup && blkC l.N l.sc sc (ownL l tg) && mTg (l.sub sc) tg tp tgx && enuOk it tp && mIt t P l it itx && mCs t P (l.sub sc) ifs ifx && mE t P (l.sub sc) elt x0) = true) {Q : VK} (R : Rg W g S H) (eo : EnvOk W g σ env)
    (h : EvP W wx σ g S H (ev (gamW W P n) (.lc dp ln tg tp it ifs elt) env S) Q) : LcT X tg tp tgx itx ifx sc x0 σ H Q := by
  simp only [Bool.and_eq_true] at hm'
  obtain ⟨⟨⟨⟨⟨⟨⟨m0, m1⟩, m2⟩, m3⟩, m4⟩, m5⟩, m6⟩, m7⟩ := hm'
  have hc : l.hot = false := by simpa using m0
  refine ihit C m5 (fun z => ?_) R eo ?_
  · cases it <;> first
      | (cases z; done)
      | (have : tp = true := m4
         subst this
         exact mTg_tup m3)
  have h' : EvP W wx σ g S H ((evIt (gamW W P n) it env S).bind fun (items, bo, S1, m) => if m then .stuck else
      (lcGo items (fun x => (ofO (bindT env tg tp x)).bind fun env' => (evC (gamW W P n) ifs env' (lockO S bo)).bind fun b => if b then (ev (gamW W P n) elt env' (lockO S bo)).bind fun (k, d, _, m2) => if m2 || !fits dp ln (k, d) then .stuck else .ok (some d) else .ok none)).nox.bind fun ds =>
      if ds.length ≤ sizeLine then .ok (.fr (dp + 1) ln, .lst ds, S, false) else .stuck) Q := h
  cases e1 : evIt (gamW W P n) it env S with
  | stuck => rw [e1] at h'; exact h'.elim
  | exc c S1 => rw [e1] at h'; exact h'
  | ok r1 =>
    obtain ⟨items, bo, S1, m⟩ := r1
    rw [e1] at h'
    cases m with
    | true => exact h'.elim
    | false =>
    generalize hfF : (fun (x : Bool × D) => (ofO (bindT env tg tp x)).bind fun env' => (evC (gamW W P n) ifs env' (lockO S bo)).bind fun b => if b then (ev (gamW W P n) elt env' (lockO S bo)).bind fun (k, d, _, m2) => if m2 || !fits dp ln (k, d) then .stuck else .ok (some d) else .ok none) = fF
    have h2 : EvP W wx σ g S H ((lcGo items fF).nox.bind fun ds => if ds.length ≤ sizeLine then .ok (.fr (dp + 1) ln, .lst ds, S, false) else .stuck) Q := by
      rw [← hfF]; exact h'
    cases e2 : lcGo items fF with
    | stuck => rw [e2] at h2; exact h2.elim
    | exc c S2 => rw [e2] at h2; exact h2.elim
    | ok ds =>
    rw [e2] at h2
    have h3 : EvP W wx σ g S H (if ds.length ≤ sizeLine then .ok (.fr (dp + 1) ln, .lst ds, S, false) else .stuck) Q := h2
    by_cases hsz : ds.length ≤ sizeLine
    · rw [if_pos hsz] at h3
      intro g1 H1 J R1 gr1 hm1 lk ⟨G, Y, wk, hG, hY⟩ Da hD
      obtain ⟨rfl, ex1⟩ := hm1 rfl
      have Rl := lockO_rg lk R1
      refine lc_it (g := tgG X.K tg tp) (tt := fun σ H Q => ∀ (s : Shared) (H0 : Hp) (C : Addr) (cl : List (Str × Addr)) (fp : List Addr), uTs (X.blk s H0 sc (compEnvC sc cl C X.env) fp) ifx σ H Q) (te := fun σ H Q => ∀ (s : Shared) (H0 : Hp) (C : Addr) (cl : List (Str × Addr)) (fp : List Addr), uE (X.blk s H0 sc (compEnvC sc cl C X.env) fp) x0 σ H Q) (vs := tg) (σ := σ) (H1 := H1) (D := Da) (Qd := Q (.ref Da)) wk (fun i H2 => ∃ g2 ds0 rest vs fp, Rg W g2 (lockO S1 bo) H2 ∧ Gr T0 g1 (lockO S1 bo) H1 g2 (lockO S1 bo) H2 ∧ Ex H1 H2 ∧ H2 Da = some (.lst vs) ∧ RtL W g2.r (g2.G ln) H2 ds0 dp vs fp ∧
        Fre g2 (lockO S1 bo) (fun a => H1 a = none ∨ OwnU g1 (lockO S1 bo) a) (Da :: fp) ∧ lcGo (items.drop i) fF = .ok rest ∧ ds0 ++ rest = ds) ?_ ?_ ?_ ?_
      · obtain ⟨R2, gr2⟩ := Rl.new (o := .lst []) hD trivial
        exact ⟨g1, [], ds, [], [], R2, gr2, Ex.new hD, upd_same, ⟨rfl, rfl⟩, (Fre.newCell Rl hD (List.nil_sublist []) List.nodup_nil (by simp) (by simp) (by simp)).imp fun a _ z => .inl (z.resolve_left (by simp)), e2, rfl⟩
      · rintro i H2 _ ⟨g2, ds0, rest, vs, fp, R2, gr2, _⟩
        exact hG g2 _ H2 R2 gr2
      · rintro i xv H2 H3 hi ⟨g2, ds0, rest, vs, fp, R2, gr2, ex2, hDa, rt, fr, e3, e4⟩ y
        obtain ⟨ld, e5⟩ : ∃ ld, items[i]? = some ld := ⟨items[i], List.getElem?_eq_getElem hi⟩
        obtain ⟨lb, d⟩ := ld
        obtain ⟨g3, R3, gr3, ex3, rv3⟩ := hY i lb d H2 xv H3 e5 y g2 _ R2 gr2
        have e6 : items.drop i = (lb, d) :: items.drop (i + 1) := by
          rw [List.drop_eq_getElem_cons hi]
          rw [List.getElem?_eq_getElem hi] at e5
          rw [Option.some.inj e5]
        rw [e6] at e3
        obtain ⟨o, e7, e8⟩ := bind_ok (show (fF (lb, d)).bind (fun o => (lcGo (items.drop (i + 1)) fF).bind fun ds => .ok (match o with
          | some d => d :: ds
          | none => ds)) = .ok rest from e3)
        obtain ⟨rest', e9, e10⟩ := bind_ok e8
        rw [← hfF] at e7
        obtain ⟨env', e11, e12⟩ := bind_ok (show (ofO (bindT env tg tp (lb, d))).bind _ = .ok o from e7)
        have e11' : bindT env tg tp (lb, d) = some env' := by
          cases q : bindT env tg tp (lb, d) with
          | none => rw [q] at e11; cases e11
          | some z => rw [q] at e11; cases e11; rfl
        obtain ⟨b, e13, e14⟩ := bind_ok e12
        have gr13 := gr2.trans0 gr3
        refine tg_run (ex := fun j => j ∈ tg) R3 rv3 e11' (((eo.mono gr1).mono (unlockO lk R3 gr13).2.1).wipe tg) fun σ2 w1 w2 ev2 => ⟨wipe_eq (by rw [w1, wipe_length]) fun j hj => by rw [w2 j hj, wipe_out hj], ?_⟩
        have eo3 : EnvOk W g3 σ2 env' := ev2.ok fun j z => z.2 z.1
        intro s0 H00 C0 cl0 fp0
        refine tests_ok ihc (C.blk hc s0 H00 sc C0 cl0 fp0) m6 R3 eo3 ?_
        rw [e13]
        intro g4 H4 R4 gr4 ex4
        have hDa4 : H4 Da = some (.lst vs) := ex4 _ _ (ex3 _ _ hDa)
        have gr24 := gr3.trans0 gr4
        have ex24 := ex3.trans ex4
        have fr4 : Fre g4 (lockO S1 bo) (fun a => H1 a = none ∨ OwnU g1 (lockO S1 bo) a) (Da :: fp) := fr.keep gr24 (fun a ha => by
          rcases List.mem_cons.mp ha with z | z
          · rw [z]; exact ⟨_, hDa⟩
          · exact rt.there a z) fun _ _ z => z
        have rt4 : RtL W g4.r (g4.G ln) H4 ds0 dp vs fp := RtL.mono (Gh.G_ex gr24 ln) gr24.r (fun a _ o z => ex24 a o z) rt
        cases b with
        | false =>
          rw [if_neg (by decide)]
          have e15 : (Z.R.ok none : Z.R (Option D)) = .ok o := e14
          cases e15
          cases e10
          exact ⟨g4, ds0, _, vs, fp, R4, gr13.trans0 gr4, ex2.trans ex24, hDa4, rt4, fr4, e9, e4⟩
        | true =>
          rw [if_pos rfl]
          obtain ⟨⟨k5, d5, S5, m5'⟩, e15, e16⟩ := bind_ok (show (ev (gamW W P n) elt env' (lockO S1 bo)).bind _ = .ok o from e14)
          have e17 : (if (m5' || !fits dp ln (k5, d5)) = true then Z.R.stuck else .ok (some d5)) = .ok o := e16
          by_cases q : (m5' || !fits dp ln (k5, d5)) = true
          · rw [if_pos q] at e17; cases e17
          · rw [if_neg q] at e17
            cases e17
            cases e10
            simp only [Bool.or_eq_true, not_or, Bool.not_eq_true, Bool.not_eq_false'] at q
            obtain ⟨q1, q2⟩ := q
            intro s1 H01 C1 cl1 fp1
            refine ihe (C.blk hc s1 H01 sc C1 cl1 fp1) m7 R4 (eo3.mono gr4) ?_
            rw [e15]
            intro g5 H5 yv f5 R5 gr5 hm5 rk5 fr5
            obtain ⟨rfl, ex5⟩ := hm5 q1
            have hDa5 : H5 Da = some (.lst vs) := ex5 _ _ hDa4
            have fr45 : Fre g5 (lockO S1 bo) (fun a => H1 a = none ∨ OwnU g1 (lockO S1 bo) a) (Da :: fp) := fr4.keep gr5 (fun a ha => by
              rcases List.mem_cons.mp ha with z | z
              · rw [z]; exact ⟨_, hDa4⟩
              · exact rt4.there a z) fun _ _ z => z
            have rt5 : RtL W g5.r (g5.G ln) H5 ds0 dp vs fp := RtL.mono (Gh.G_ex gr5 ln) gr5.r (fun a _ o z => ex5 a o z) rt4
            have grA := gr13.trans0 (gr4.trans0 gr5)
            have frA := fre_app (gr13.trans0 gr4) (fun a ha => by
              rcases List.mem_cons.mp ha with z | z
              · rw [z]; exact ⟨_, hDa4⟩
              · exact rt4.there a z) fr4 fr5 fr45 fun a z => new_back (gr13.trans0 gr4) z
            obtain ⟨g6, f6, s6, R6, gr6, rt6, o1, o2, o3, o4⟩ := fits_rk R5 rk5 fr5.nd (fre_T fr5) q2
            have nd := frA.nd
            have ndD : Da ∉ f5 := fun z => (List.nodup_append.mp nd).2.2 Da List.mem_cons_self Da z rfl
            have own6 : ∀ a, Own g6 (lockO S1 bo) a → Own g5 (lockO S1 bo) a := fun a ⟨n, b, l, ha⟩ => ⟨n, b, l, by rw [← o3]; exact ha⟩
            have fr6 : Fre g6 (lockO S1 bo) (fun a => H1 a = none ∨ OwnU g1 (lockO S1 bo) a) (Da :: (fp ++ f6)) := by
              refine ⟨frA.nd.sublist (show List.Sublist (Da :: (fp ++ f6)) ((Da :: fp) ++ f5) from (List.Sublist.refl (Da :: fp)).append s6), fun a ha => ?_⟩
              have ha' : a ∈ (Da :: fp) ++ f6 := ha
              rcases List.mem_append.mp ha' with z | z
              · obtain ⟨z1, z2, z3⟩ := frA.fr a (List.mem_append_left _ z)
                refine ⟨?_, fun w => z2 (own6 a w), z3⟩
                rw [o1 a fun w => (List.nodup_append.mp nd).2.2 a z a w rfl]; exact z1
              · obtain ⟨z1, z2, z3⟩ := frA.fr a (List.mem_append_right _ (s6.subset z))
                exact ⟨o2 a z, fun w => z2 (own6 a w), z3⟩
            obtain ⟨z1, z2, _⟩ := fr6.fr Da List.mem_cons_self
            have rtB : RtL W g6.r (g6.G ln) H5 (ds0 ++ [d5]) dp (vs ++ [yv]) (fp ++ f6) := RtL.snoc (RtL.mono (Gh.G_ex gr6 ln) gr6.r (fun a _ o z => z) rt5) rt6
            refine ⟨vs, hDa5, ?_, g6, ds0 ++ [d5], rest', vs ++ [yv], fp ++ f6, R6.put hDa5 trivial z1 z2, (grA.trans1 (fr5.imp fun a _ z => new_back (gr13.trans0 gr4) z) gr6).put hD, (ex2.trans (ex24.trans ex5)).put hD, upd_same, RtL.mono (Ex.refl _) (fun _ _ z => z) (fun a ha o z => ?_) rtB, fr6, e9, by rw [List.append_assoc]; exact e4⟩
            · have := rt5.len
              rw [← e4] at hsz
              simp only [List.length_append, List.length_cons] at hsz
              omega
            · rw [upd_ne]
              · exact z
              · rintro rfl
                exact (List.nodup_cons.mp fr6.nd).1 ha
      · rintro H2 ⟨g2, ds0, rest, vs, fp, R2, gr2, ex2, hDa, rt, fr, e3, e4⟩
        rw [List.drop_length] at e3
        cases e3
        rw [List.append_nil] at e4
        subst e4
        obtain ⟨R3, gr3, ow, ou⟩ := unlockO lk R2 gr2
        refine h3 g2 H2 (.ref Da) (Da :: fp) R3 (gr1.trans0 gr3) (fun _ => ⟨rfl, ex1.trans ex2⟩) ⟨Da, vs, fp, rfl, rfl, hDa, rt⟩ ⟨fr.nd, fun a ha => ?_⟩
        obtain ⟨z1, z2, z3⟩ := fr.fr a ha
        exact ⟨z1, fun w => z2 (ow a w), new_back gr1 (z3.imp id (ou a))⟩
    · rw [if_neg hsz] at h3; exact h3.elim
theorem case_lc {dp : Nat} {ln : Bool} {tg : List Nat} {tp : Bool} {it : It} {ifs : List Cd} {elt : E} (ihit : ItS W t P F n it) (ihc : ∀ c ∈ ifs, CdS W t P F n c) (ihe : EvS W t P F n elt) : EvS W t P F n (.lc dp ln tg tp it ifs elt) := fun {X l wx} C {x} hm {env S g H σ Q} R eo h => by
  obtain ⟨x0, tgx, itx, ifx, sc, pos, rfl, hm'⟩ := lc_form hm
  have hm2 := hm'
  simp only [Bool.and_eq_true] at hm2
  obtain ⟨⟨⟨⟨⟨⟨⟨m0, m1⟩, m2⟩, m3⟩, m4⟩, m5⟩, m6⟩, m7⟩ := hm2
  have hc : l.hot = false := by simpa using m0
  exact uE_of (pe_lcU (gx := tgG X.K tg tp) C hc (by rw [C.N, C.sc]; exact blkOk_by m2) (fun s H C0 cl fp => tg_pg (C.blk hc s H sc C0 cl fp) hc m3) (mIt_plain m5)) (lc_run ihit ihc ihe C hm' R eo h)
theorem ps_setLcU {elt tg iter : Expr} {ifs : List Expr} {scope : Scope} {tgs : List Nat} {pos spos py : Pos} {i : Nat} {y : Str} {tp : Bool} (C : Cf X W t P F n l wx) (hc : l.hot = false) (ok : BlkOk X.N X.env.scope scope (ownL l tgs)) (hy : X.N[i]? = some y) (hyl : X.env.scope.names.lookup y = some .local)
    (hsw : swapsWith (.ListComp elt [⟨tg, iter, ifs, 0⟩] scope pos) (some (.Name y py)) spos.line X.env = pure true)
    (hg : ∀ (s : Shared) (H : Hp) (C : Addr) (cl : List (Str × Addr)) (fp : List Addr), PG (X.blk s H scope (compEnvC scope cl C X.env) fp) tg (tgG X.K tgs tp)) (hs : itPlain iter = true) :
    PS X (.Assign [.Name y py] (.ListComp elt [⟨tg, iter, ifs, 0⟩] scope pos) spos) (tAsg (LcT X tgs tp tg iter ifs scope elt) (gName i)) := by
  have h := ps_setLc (elt := elt) (pos := pos) (C.calm hc) (by rw [C.N]; exact C.nd) hy hyl hsw (pi_u (X := X) (tg := tg) (x := iter)) ok hg (tt := fun σ H Q => ∀ (s : Shared) (H0 : Hp) (C : Addr) (cl : List (Str × Addr)) (fp : List Addr), uTs (X.blk s H0 scope (compEnvC scope cl C X.env) fp) ifs σ H Q)
    (fun s H C cl fp => ⟨fun pins s' σ H Q I h => pts_u.run pins s' σ H Q I (h s _ C cl fp)⟩) (te := fun σ H Q => ∀ (s : Shared) (H0 : Hp) (C : Addr) (cl : List (Str × Addr)) (fp : List Addr), uE (X.blk s H0 scope (compEnvC scope cl C X.env) fp) elt σ H Q)
    (fun s H C cl fp => ⟨fun pins s' σ H Q I h => pe_u.run pins s' σ H Q I (h s _ C cl fp)⟩) (by
      intro x
      cases iter <;> first
        | rfl
        | cases hs)
  rw [ownL_ix] at h
  exact h
end
end Z

namespace Z
open PySem L2 PySem.Spec PyProof.Rows
section
variable {W : Wr} {t : Tb} {P : Pg} {F : Fns} {n : Nat} {l : Lc} {wx : WX} {g g' g1 g2 : Gh} {S S' S1 S2 : Sto} {H H' H1 H2 : Hp} {X : Cx} {v u : V} {vs : List V} {f f1 f2 fp : List Addr} {Q : VK} {σ : L2.St} {env : EnvD} {k : Kd} {d : D} {x : Option (Nat × Addr × Nat)} {N : Addr → Prop}
theorem pt_xs {G : Hp} : ∀ (p : List Nat) (T : D) (k : Nat) (v : V) (d : D) (k' : Nat) (v' : V), Pt (W.at_ x) G H p T k v d k' v' = Pt W G H p T k v d k' v'
  | [], _, _, _, _, _, _ => rfl
  | i :: p, T, k, v, d, k', v' => by
    show (∃ j y u, k = j + 1 ∧ Kid (W.at_ x) G H i T v y u ∧ Pt (W.at_ x) G H p y j u d k' v') = (∃ j y u, k = j + 1 ∧ Kid W G H i T v y u ∧ Pt W G H p y j u d k' v')
    simp only [pt_xs p]
    rfl
theorem rk_xs {a : Vd} : RK (W.at_ x) g S H a v f ↔ RK W g S H a v f := by
  obtain ⟨k, d⟩ := a
  cases k with
  | vl l => show (f = [] ∧ Rv (W.at_ x) g.r (g.G l) d v) ↔ _; rw [rv_xs]; rfl
  | fr j l => show Rt (W.at_ x) g.r (g.G l) H d j v f ↔ _; rw [rt_xs]; rfl
  | tn m p =>
    show RK (W.at_ x) g S H (.tn m p, d) v f ↔ RK W g S H (.tn m p, d) v f
    simp only [RK, pt_xs]
theorem rg_xs : Rg (W.at_ x) g S H ↔ Rg W g S H :=
  ⟨fun R => ⟨R.fl, R.lh, R.tup, fun n b h => by
    obtain ⟨a, h1, h2⟩ := R.box n b h
    rw [rt_xs] at h2
    exact ⟨a, h1, h2⟩, R.nd, R.dis, R.off, R.rho⟩, fun R => ⟨R.fl, R.lh, R.tup, fun n b h => by
    obtain ⟨a, h1, h2⟩ := R.box n b h
    exact ⟨a, h1, by rw [rt_xs]; exact h2⟩, R.nd, R.dis, R.off, R.rho⟩⟩
/-- isinstance of the error -/
theorem call_isZ {a C : Addr} {oe : Obj} (hp : (a, oe) ∈ X.pn) (q : ExcC X.K C) (hz : Zc (.ref C) none oe) (hf : ∃ ws, oe.data = .fields ws) : CallR X (.builtin "isinstance") (rIsE X.K C a) := fun pins s σ H xs us Q I r hh => by
  obtain ⟨c, cv, b, rfl, k1, k2, k3⟩ := hh
  obtain ⟨u1, u2, rfl, r1, r2⟩ := vals2 r
  cases (show u1 = Value.ref a from r1)
  rw [k1 u2 r2]
  have gt := (I.pin (a, oe) (List.mem_append_left _ hp)).1
  obtain ⟨ws, hw⟩ := hf
  have ia : PySem.W.InstAt s.heap a oe C none := by
    obtain ⟨c1, c2, c3, c4⟩ := oe
    obtain ⟨z1, z2⟩ := hz
    cases z1
    cases z2
    cases hw
    exact ⟨gt, rfl, rfl, trivial⟩
  exact PySem.W.kia_one (PySem.W.handS_kitx_exc q.hg q.hk q.hs q.hd q.ha q.hn q.ht q.hm) I.kIn ia k2 (fun z => nomatch z) fun tk => ⟨.bl b, H, I.kept (t' := tk) fun _ _ z => z, rfl, k3⟩
theorem xOf_some {Γ : Ga} {i c : Nat} (h : xOf Γ env i = some c) : ∃ lb m, env[i]? = some (some (lb, .bx m)) ∧ Γ.xn = some (m, c) := by
  unfold xOf at h
  split at h
  · rename_i lb m m' c' e1 e2
    split at h
    · rename_i e3
      subst e3
      cases h
      exact ⟨_, _, e1, e2⟩
    · cases h
  · cases h
/-- the name bears the error -/
theorem x_at (C : Cf X W t P F n l wx) (hh : l.hot = true) (R : Rg W g S H) (eo : EnvOk W g σ env) {i c : Nat} (h : xOf (gamW W P n) env i = some c) :
    ∃ a oe, σ[i]? = some (some (.ref a)) ∧ (a, oe) ∈ X.pn ∧ Zc (.ref (W.xc c)) none oe ∧ (∃ ws, oe.data = .fields ws) ∧ c < P.nx := by
  obtain ⟨lb, m, e1, e2⟩ := xOf_some h
  obtain ⟨⟨m', a, k, oe, q1, q2, q3, q4, q5⟩, _⟩ := C.hotq hh
  have e3 : W.xs.map (fun q => (q.1, q.2.2)) = some (m, c) := e2
  rw [q1] at e3
  cases e3
  obtain ⟨v, hv, a', r1, r2⟩ := eo.2 i lb _ e1
  have := eo.1.2 _ _ _ q1
  rw [r1] at this
  cases this
  subst r2
  exact ⟨_, oe, hv, q2, q3, q4, q5⟩
theorem kit_of_exm {K : PySem.W.Frag} {a b : Value} {q : Bool} (h : PySem.W.exmOne K a b = some q) (hr : PySem.W.exmOne K a a = some true) : PySem.W.kitOne K a b = some q := by
  unfold PySem.W.kitOne
  by_cases e : (a == b) = true
  · have e' := eq_of_beq e
    subst e'
    rw [h] at hr
    rw [if_pos e, Option.some.inj hr]
  · rw [if_neg e]
    unfold PySem.W.exmOne at h
    split at h
    · exact h
    · cases h
theorem case_isX {o : Option Nat} {i : Nat} : EvS W t P F n (.isX o i) := fun {X l wx} C {x} hm {env S g H σ Q} R eo h => by
  have hm' : ∃ y p0 e p1 T p2 pos, x = .Call (.Name y p0) [.Name e p1, .Name T p2] [] pos ∧ (l.hot && decide (y = "isinstance") && gloB l y && decide (y ∈ t.free) && decide (l.N[i]? = some e) && visB l e && okNm e && (match (generalizing := false) o with
    | none => decide (T = "ValueError") && gloB l T && decide (T ∈ t.free)
    | some c => decide (t.exc[c]? = some T) && gloB l T && okNm T)) = true := by
    cases x <;> first
      | (cases hm; done)
      | skip
    rename_i fx as ks pos
    cases fx <;> first
      | (cases hm; done)
      | skip
    rcases as with _ | ⟨a1, _ | ⟨a2, _ | ⟨a3, r⟩⟩⟩
    · cases hm
    · cases a1 <;> cases hm
    · cases a1 <;> first
        | (cases hm; done)
        | skip
      cases a2 <;> first
        | (cases hm; done)
        | skip
      cases ks <;> first
        | (cases hm; done)
        | skip
      exact ⟨_, _, _, _, _, _, _, rfl, hm⟩
    · cases a1 <;> first
        | (cases hm; done)
        | skip
      cases a2 <;> cases hm
  obtain ⟨y, p0, e, p1, T, p2, pos, rfl, hm'⟩ := hm'
  simp only [Bool.and_eq_true, decide_eq_true_eq] at hm'
  obtain ⟨⟨⟨⟨⟨⟨⟨m1, rfl⟩, m3⟩, m4⟩, m5⟩, m6⟩, m7⟩, m8⟩ := hm'
  have h' : EvP W wx σ g S H ((ofO (xOf (gamW W P n) env i)).bind fun c => .ok (.vl false, .bl (subX c o), S, false)) Q := h
  cases ex : xOf (gamW W P n) env i with
  | none => rw [ex] at h'; exact h'.elim
  | some c =>
    rw [ex] at h'
    obtain ⟨a, oe, hv, q2, q3, q4, q5⟩ := x_at C m1 R eo ex
    obtain ⟨o1, o2, _⟩ := okNm_of m7
    have rule := call_isZ q2 (C.xfa.cl c q5) q3 q4
    have he : PE X (.Name e p1) _ := pe_var (by rw [C.N]; exact m5) (vis_of C m6) o1 o2
    have fin : Q (.bl (subX c o)) H := h' g H (.bl (subX c o)) [] R Gr.refl (fun _ => ⟨rfl, Ex.refl _⟩) ⟨rfl, rfl⟩ Fre.nil
    cases o with
    | none =>
      simp only [Bool.and_eq_true, decide_eq_true_eq] at m8
      obtain ⟨⟨rfl, m9⟩, m10⟩ := m8
      refine uE_of (pe_callB (id := "isinstance") rule (glo_of C.toFt m3) (C.free _ m4) (by decide +kernel) (pa_cons he (pa_cons (pe_bltn (v := .ty "ValueError") (glo_of C.toFt m9) (C.free _ m10) (by decide +kernel) rfl (by decide +kernel) (by decide +kernel)) pa_nil) (star_cons rfl)) (by decide +kernel) (by decide +kernel) (star_cons rfl) (star_any (es := [.Name _ _]) rfl)) ?_
      refine ⟨.ref a, hv, ?_⟩
      exact ⟨_, _, true, rfl, fun u r => r, C.xfa.val c q5, fin⟩
    | some j =>
      simp only [Bool.and_eq_true, decide_eq_true_eq] at m8
      obtain ⟨⟨m8, m9⟩, m10⟩ := m8
      have hj : j < P.nx := by rw [← C.xfa.len]; exact (List.getElem?_eq_some_iff.mp m8).1
      obtain ⟨z1, _⟩ := C.exc j T m8
      refine uE_of (pe_callB (id := "isinstance") rule (glo_of C.toFt m3) (C.free _ m4) (by decide +kernel) (pa_cons he (pa_cons (pe_glob (v := .ref (W.xc j)) (glo_of C.toFt m9) z1 rfl (okNm_of m10).1) pa_nil) (star_cons rfl)) (by decide +kernel) (by decide +kernel) (star_cons rfl) (star_any (es := [.Name _ _]) rfl)) ?_
      refine ⟨.ref a, hv, ?_⟩
      refine ⟨_, _, _, rfl, fun u r => r, kit_of_exm (C.xfa.sub c j q5 hj) ?_, fin⟩
      · rw [C.xfa.sub c c q5 q5]
        show some (c == 0 || c == c) = _
        simp
/-- a def called with the error alone -/
theorem pe_callX {a : Addr} {oe : Obj} {f : Addr} {fd : FuncData} {y e0 z : Str} {q pos ep : Pos} {r : Nat → R (Kd × D × Sto)} {kk nx : Nat} {ta : TE} (B : FnX X.prog X.w X.K X.mg X.base W nx f fd [z] r) (hr : L2H.RoomH 1 X.A) (hp : (a, oe) ∈ X.pn) (hz : Zc (.ref (W.xc kk)) none oe) (hf : ∃ ws, oe.data = .fields ws) (hk : kk < nx)
    (hg : Gl X y) (hm : X.mg y = some (.ref f)) (hkp : PySem.W.keepIn X.K (.ref f) = true) (hb : Binds X.K fd [z] []) (ha : PE X (.Name e0 ep) ta) (hdb : (y == ("__debug__" : Str)) = false) :
    PE X (.Call (.Name y q) [.Name e0 ep] [] pos) (fun σ H Q => ta σ H fun v H1 => v = .ref a ∧ spX W r kk a H1 Q) := by
  have pa : PA X [.Name e0 ep] _ := pa_cons ha pa_nil (star_cons rfl)
  refine ⟨fun pins s σ H Q I h => wpAny_Call_Name_kw (ld_glob I hg hm ?_ hdb)⟩
  refine PySem.W.callWith_K (h₀ := X.base) I.ok.mod.kin hkp (thn (pa.run pos pins s σ H (fun vs H1 => match vs with
    | [v] => v = .ref a ∧ spX W r kk a H1 Q
    | _ => False) I h) fun us s1 got => ?_) (star_cons rfl) (star_any (es := []) rfl)
  obtain ⟨vs, H1, I1, r1, q1⟩ := got
  refine ⟨I1.kIn, ?_⟩
  rcases vs with _ | ⟨v, _ | ⟨v2, vr⟩⟩
  · exact q1.elim
  · obtain ⟨rfl, q2⟩ := q1
    obtain ⟨u1, rfl, ru⟩ : ∃ u1, us = [u1] ∧ RelV (V.ref a) u1 := by
      cases r1 with
      | cons h1 h2 => cases h2; exact ⟨_, rfl, h1⟩
    cases (show u1 = Value.ref a from ru)
    have bt := hb s1 [.ref a] I1.kIn rfl
    have pin := I1.pin (a, oe) (List.mem_append_left _ hp)
    have pk : L2H.PinOk X.stack H1 s1 (a, oe) := ⟨pin.1, pin.2.1, fun z => by
      rcases List.mem_cons.mp (I1.stkSub a z) with z | z
      · exact pin.2.2.1 z
      · exact pin.2.2.2.1 z, pin.2.2.2.2⟩
    refine wpAny_call (codeAny_mono (B.run X.A X.stack s1 H1 ⟨[.ref a], []⟩ (a, oe) kk Q hr pk hz hf hk I1.env0 bt q2) fun rs s2 hq => ?_)
    cases rs with
    | error e =>
      obtain ⟨_, _, _, _, _, _, _, _, _, _, _, _, no⟩ := (show L2.CX X.prog X.w X.stack H1 s1 (fun _ _ _ => False) e s2 from hq)
      exact no.elim
    | ok fl =>
      cases fl with
      | ret u => exact I1.after hq
      | next => exact False.elim hq
      | brk => exact False.elim hq
      | cont => exact False.elim hq
  · exact q1.elim
abbrev Gh.dead (g : Gh) (H : Hp) (a : Addr) : Gh := ⟨g.F, H, fun n => if n = 0 then some a else none, fun _ => []⟩
theorem no_live0 {m : Nat} {b : Bx} : ¬ Live [none] m b := fun z => by rcases m with _ | m <;> cases z
theorem Rg.deadX (R : Rg W g S H) (a : Addr) : Rg (W.at_ none) (g.dead H a) [none] H :=
  ⟨R.fl.trans R.lh, Ex.refl _, R.tup, fun n b z => absurd z no_live0, fun n b z => absurd z no_live0, fun n m b c z => absurd z no_live0, fun n b z => absurd z no_live0, fun n a' z => by
    have z' : (if n = 0 then some a else none) = some a' := z
    by_cases q : n = 0
    · subst q; exact Nat.one_pos
    · rw [if_neg q] at z'; cases z'⟩
theorem Gr.deadX {a : Addr} : Gr T0 (g.own H) [] H (g.dead H a) [none] H :=
  ⟨Ex.refl _, Ex.refl _, fun n a' z => (by cases z), fun a' o z _ _ => z, fun a' z => .inl z, fun a' z => .inl z, fun a' ⟨m, b, z, _⟩ => absurd z no_live0,
    fun m b _ => ⟨⟨fun z => (by simp [Live] at z), fun z => absurd z no_live0⟩, fun z => (by simp [Live] at z)⟩, Nat.zero_le _⟩
theorem case_callX {f i : Nat} : EvS W t P F n (.callX f i) := fun {X l wx} C {x} hm {env S g H σ Q} R eo h => by
  have hm' : ∃ y p0 e p1 pos, x = .Call (.Name y p0) [.Name e p1] [] pos ∧ (l.hot && decide (t.fns[f]? = some y) && okNm y && gloB l y && (match P.fns[f]? with
    | some fi => fi.hot
    | none => false) && decide (l.N[i]? = some e) && visB l e && okNm e) = true := by
    cases x <;> first
      | (cases hm; done)
      | skip
    rename_i fx as ks pos
    cases fx <;> first
      | (cases hm; done)
      | skip
    rcases as with _ | ⟨a1, _ | ⟨a2, r⟩⟩
    · cases hm
    · cases a1 <;> first
        | (cases hm; done)
        | skip
      cases ks <;> first
        | (cases hm; done)
        | skip
      exact ⟨_, _, _, _, _, rfl, hm⟩
    · cases a1 <;> cases hm
  obtain ⟨y, p0, e, p1, pos, rfl, hm'⟩ := hm'
  simp only [Bool.and_eq_true, decide_eq_true_eq] at hm'
  obtain ⟨⟨⟨⟨⟨⟨⟨m1, m2⟩, m3⟩, m4⟩, m5⟩, m6⟩, m7⟩, m8⟩ := hm'
  obtain ⟨fi, hf, hh⟩ : ∃ fi, P.fns[f]? = some fi ∧ fi.hot = true := by
    cases q : P.fns[f]? with
    | none => rw [q] at m5; cases m5
    | some fi => rw [q] at m5; exact ⟨fi, rfl, m5⟩
  have h' : EvP W wx σ g S H ((ofO (xOf (gamW W P n) env i)).bind fun c => ((runX P f c).nox.bind outP).bind fun (k, d) => .ok (k, d, S, false)) Q := h
  cases ex : xOf (gamW W P n) env i with
  | none => rw [ex] at h'; exact h'.elim
  | some c =>
    rw [ex] at h'
    have h2 : EvP W wx σ g S H (((runX P f c).nox.bind outP).bind fun (k, d) => .ok (k, d, S, false)) Q := h'
    obtain ⟨a, oe, hv, q2, q3, q4, q5⟩ := x_at C m1 R eo ex
    obtain ⟨o1, o2, _⟩ := okNm_of m8
    obtain ⟨_, hroom⟩ := C.hotq m1
    have hroom := hroom fun z => by rw [z] at hf; cases hf
    obtain ⟨np1, B⟩ := C.xfn f fi hf hh
    obtain ⟨z1, z2⟩ := C.mgf f y m2
    have pl := C.psl f fi hf
    obtain ⟨z, ez⟩ : ∃ z, F.ps f = [z] := List.length_eq_one_iff.mp (by rw [pl, np1])
    rw [ez] at B
    have hb : Binds X.K (F.fd f) [z] [] := by
      obtain ⟨ds, dvs, b1, b2, b3⟩ := C.bnd f fi hf 0 (Nat.zero_le _)
      have hd := b3 (fun _ => none) (fun _ => none)
      rw [Nat.sub_zero, List.drop_length] at hd
      have hd' : dvs = [] := hd
      subst hd'
      cases b2
      rw [ez] at b1
      exact b1
    refine uE_of (pe_callX B hroom q2 q3 q4 q5 (glo_of C.toFt m4) z1 z2 hb (pe_var (by rw [C.N]; exact m6) (vis_of C m7) o1 o2) (okNm_of m3).1) ?_
    refine ⟨.ref a, hv, rfl, g.dead H a, R.deadX a, rfl, ?_⟩
    cases er : runX P f c with
    | stuck => rw [er] at h2; exact h2.elim
    | exc c2 S2 => rw [er] at h2; exact h2.elim
    | ok r3 =>
      obtain ⟨k', d, S'⟩ := r3
      rw [er] at h2
      have h3 : EvP W wx σ g S H ((outP (k', d, S')).bind fun (k, d) => .ok (k, d, S, false)) Q := h2
      intro g' H' v fp R' gr' rk fr'
      have Rz := rg_xs.mp R'
      have rkz := rk_xs.mp rk
      obtain ⟨R3, gr3, exx, exL⟩ := R.back Rz (Gr.deadX.trans0 gr')
      have fresh : ∀ b ∈ fp, H b = none := fun b hb => by
        rcases (fr'.fr b hb).2.2 with q | ⟨m, b2, q, _⟩
        · exact q
        · exact absurd q no_live0
      have fre : Fre (g.back g') S (fun b => H b = none ∨ OwnU g S b) fp := by
        refine ⟨fr'.nd, fun b hb => ⟨?_, fun ⟨m, b2, q, hq⟩ => ?_, .inl (fresh b hb)⟩⟩
        · cases q : (g.back g').L b with
          | none => rfl
          | some o => have z := (fr'.fr b hb).1; rw [exL b o q] at z; cases z
        · obtain ⟨o, ho⟩ := R.box_there q b hq
          rw [fresh b hb] at ho; cases ho
      have fin : ∀ {k2 : Kd} {fp2 : List Addr}, fp2.Sublist fp → RK W (g.back g') S H' (k2, d) v fp2 → EvP W wx σ g S H (.ok (k2, d, S, false)) Q → Q v H' := fun {k2 fp2} s rk2 h2 =>
        h2 _ _ v fp2 R3 gr3 (fun _ => ⟨rfl, exx⟩) rk2 (fre.sub s)
      have h4 : EvP W wx σ g S H ((if d.noBx then (if d.imm then .ok (.vl false, d) else match (generalizing := false) k' with
        | .vl false => .ok (.vl false, d)
        | .fr j false => .ok (.fr j false, d)
        | _ => .stuck) else .stuck : Z.R (Kd × D)).bind fun (k, d) => .ok (k, d, S, false)) Q := h3
      by_cases nb : d.noBx = true
      · rw [if_pos nb] at h4
        by_cases i : d.imm = true
        · rw [if_pos i] at h4
          exact fin (k2 := .vl false) (List.nil_sublist _) ⟨rfl, Rv.noBx nb (rkz.imm Rz i).2⟩ h4
        · rw [if_neg i] at h4
          cases k' with
          | vl lb => cases lb with
            | true => exact h4.elim
            | false => exact fin (k2 := .vl false) (List.nil_sublist _) ⟨rfl, Rv.noBx nb rkz.2⟩ h4
          | fr j lb => cases lb with
            | true => exact h4.elim
            | false => exact fin (k2 := .fr j false) (List.Sublist.refl _) (show Rt W (g.back g').r g'.F H' d j v fp from Rt.noBx nb rkz) h4
          | tn _ _ => exact h4.elim
      · rw [if_neg nb] at h4; exact h4.elim
end
end Z

namespace Z
open PySem L2 PySem.Spec PyProof.Rows
section
variable {W : Wr} {t : Tb} {P : Pg} {F : Fns} {n : Nat}
mutual
theorem ev_ok : ∀ (e : E), EvS W t P F n e
  | .v i mv => case_v
  | .k c => case_k
  | .g y c => case_g
  | .op o [] => case_op0
  | .op o (e :: es) => case_op (ev_ok e) (evs_ok es)
  | .ch o1 o2 a b c => case_ch (ev_ok a) (ev_ok b) (ev_ok c)
  | .and' a b => case_and (ev_ok a) (ev_ok b)
  | .or' a b => case_or (ev_ok a) (ev_ok b)
  | .call p f es => case_call (evs_ok es)
  | .meth p me o es => case_meth (ev_ok o) (evs_ok es)
  | .mk b c dp ln es => case_mk (evs_ok es)
  | .mut mo o es => case_mut (ev_ok o) (evs_ok es)
  | .lc dp ln tg tp it ifs elt => case_lc (it_ok it) (cds_ok ifs) (ev_ok elt)
  | .isX o i => case_isX
  | .callX f i => case_callX
theorem evs_ok : ∀ (es : List E), EvsS W t P F n es
  | [] => evs_nil
  | e :: es => evs_cons (ev_ok e) (evs_ok es)
theorem it_ok : ∀ (it : It), ItS W t P F n it
  | .seq e => case_seq (ev_ok e)
  | .rng es => case_rng (evs_ok es)
  | .enu e => case_enu (ev_ok e)
  | .rev e => case_rev (ev_ok e)
theorem cd_ok : ∀ (c : Cd), CdS W t P F n c
  | .b e => case_b (ev_ok e)
  | .t e => case_t (ev_ok e)
  | .and' a b => case_andC (cd_ok a) (cd_ok b)
  | .or' a b => case_orC (cd_ok a) (cd_ok b)
  | .not' a => case_not (cd_ok a)
theorem cds_ok : ∀ (cs : List Cd), ∀ c ∈ cs, CdS W t P F n c
  | [], _, h => by cases h
  | c :: cs, d, h => by
    rcases List.mem_cons.mp h with e | e
    · rw [e]; exact cd_ok c
    · exact cds_ok cs d e
end
end
end Z

namespace Z
open PySem L2 PySem.Spec PyProof.Rows
def uSt (X : Cx) (st : Stmt) : TS := fun D σ H => ∀ (pins : List (Addr × Obj)) (s : Shared), Inv X pins σ H s → wpAny (model X.prog X.w) X.A (exec st X.env) (SP X pins D) X.xe s
def uSts (X : Cx) (st : List Stmt) : TS := fun D σ H => ∀ (pins : List (Addr × Obj)) (s : Shared), Inv X pins σ H s → wpAny (model X.prog X.w) X.A (execs st X.env) (SP X pins D) X.xe s
section
variable {X : Cx} {st : Stmt} {sts : List Stmt} {ts : TS} {D : Ends} {σ : L2.St} {H : Hp}
theorem ps_u : PS X st (uSt X st) := ⟨fun pins s σ H D I h => h pins s I⟩
theorem pss_u : PSs X sts (uSts X sts) := ⟨fun pins s σ H D I h => h pins s I⟩
theorem uSt_of (p : PS X st ts) (h : ts D σ H) : uSt X st D σ H := fun pins s I => p.run pins s σ H D I h
theorem uSts_of (p : PSs X sts ts) (h : ts D σ H) : uSts X sts D σ H := fun pins s I => p.run pins s σ H D I h
end
def notComp : Expr → Bool
  | .ListComp _ _ _ _ => false
  | .SetComp _ _ _ _ => false
  | .DictComp _ _ _ _ _ => false
  | _ => true
def notTup : Expr → Bool
  | .Tuple _ _ _ => false
  | _ => true
def swK (l : Lc) : Expr → Bool
  | .ListComp _ _ _ _ => (match l.sc.kind with
    | .function => true
    | _ => false)
  | .SetComp _ _ _ _ => false
  | .DictComp _ _ _ _ _ => false
  | _ => true
def swB (l : Lc) (y : Str) (py : Pos) : Expr → Bool
  | .ListComp _ _ sc pos => kindB l y .local && (py.line == pos.line) && !(sc.names.any fun (n, k) => n == y && (k == .local || k == .cell))
  | _ => false
def isFz : St → Bool
  | .fz _ => true
  | _ => false
section
variable (t : Tb) (P : Pg)
mutual
def mS (l : Lc) : St → Stmt → Bool
  | .asg i _ e, .Assign [.Name y py] v _ => tgB l (.Name y py) i && mE t P l e v && swK l v
  | .unp is e, .Assign [.Tuple es _ _] v _ => !l.hot && decide (es.length = is.length) && (es.zip is).all (fun (e, i) => tgB l e i) && mE t P l e v && notComp v && notTup v
  | .sub o i e, .Assign [.Subscript ox ix _] v _ => mE t P l o ox && mE t P l i ix && noSl ix && mE t P l e v && notComp v
  | .fld o f e, .Assign [.Attribute ox g _] v _ => decide (g = f) && decide (f ∈ t.flds) && mE t P l o ox && mE t P l e v && notComp v
  | .ex e, .Expr v _ => mE t P l e v && notComp v
  | .ite c a b, .If x y z _ => mC t P l c x && mSs l a y && mSs l b z
  | .for' tg tp it b, .For tgx itx body [] _ => !l.hot && mTg l tg tp tgx && enuOk it tp && mIt t P l it itx && mSs l b body
  | .whl c b, .While x body [] _ => !l.hot && mC t P l c x && mSs l b body
  | .ret e, .Return (some v) _ => mE t P l e v
  | .retN, .Return none _ => true
  | .raise c, .Raise (some (.Call (.Name y _) [.Constant (.str _) _ _] [] _)) none _ => !l.hot && decide (t.exc[c]? = some y) && okNm y && gloB l y
  | .tr0 b, .Try body (_ :: _) [] [] _ => !l.hot && mSs l b body
  | .tr b c o s, .Try body [.ExceptHandler (some (.Name y _)) nm (x0 :: xs) _] [] [] _ => !l.hot && decide (t.exc[c]? = some y) && okNm y && gloB l y && (match o, nm with
    | none, none => true
    | some i, some e => decide (l.N[i]? = some e) && kindB l e .local
    | _, _ => false) && mSs l b body && mSs ⟨l.N, l.sc, l.fn, true⟩ s (x0 :: xs)
  | .pass, .Pass _ => true
  | .cont, .Continue _ => true
  | _, _ => false
def mSs (l : Lc) : List St → List Stmt → Bool
  | [], [] => true
  | s :: ss, xs => if isFz s then mSs l ss xs else (match xs with
    | x :: xs => mS l s x && mSs l ss xs
    | [] => false)
  | _, _ => false
end
end
def SoP (W : Wr) (wx : WX) (g : Gh) (S : Sto) (H : Hp) (r : SO) (D : Ends) : Prop := match r with
  | .nx env' S' => ∀ (g' : Gh) (H' : Hp) (σ' : L2.St), Rg W g' S' H' → Gr T0 g S H g' S' H' → EnvOk W g' σ' env' → D.nx σ' H'
  | .ct env' S' => ∀ (g' : Gh) (H' : Hp) (σ' : L2.St), Rg W g' S' H' → Gr T0 g S H g' S' H' → EnvOk W g' σ' env' → D.ct σ' H'
  | .ret k d S' => RetOk W g S H k d S' D.rt
  | .exc c env' S' => ∀ (g' : Gh) (H' : Hp) (σ' : L2.St), Rg W g' S' H' → Gr T0 g S H g' S' H' → EnvOk W g' σ' env' → wx (.ref (W.xc c)) none σ' H'
  | .stuck => False
/-- the context's frames -/
abbrev Sq (X : Cx) : Prop := X.stack = X.env :: X.outer ∧ X.env.frame = some X.env.locals
def StS (W : Wr) (t : Tb) (P : Pg) (F : Fns) (n : Nat) (s : St) : Prop := ∀ {X : Cx} {l : Lc} {wx : WX}, Cf X W t P F n l wx → Sq X → ∀ {x : Stmt}, mS t P l s x = true → ∀ {env : EnvD} {S : Sto} {g : Gh} {H : Hp} {σ : L2.St} {D : Ends}, Rg W g S H → EnvOk W g σ env → SoP W wx g S H (ex1 (gamW W P n) s env S) D → uSt X x D σ H
def StsS (W : Wr) (t : Tb) (P : Pg) (F : Fns) (n : Nat) (ss : List St) : Prop := ∀ {X : Cx} {l : Lc} {wx : WX}, Cf X W t P F n l wx → Sq X → ∀ {xs : List Stmt}, mSs t P l ss xs = true → ∀ {env : EnvD} {S : Sto} {g : Gh} {H : Hp} {σ : L2.St} {D : Ends}, Rg W g S H → EnvOk W g σ env → SoP W wx g S H (exs (gamW W P n) ss env S) D → uSts X xs D σ H
section
variable {W : Wr} {t : Tb} {P : Pg} {F : Fns} {n : Nat} {l : Lc} {wx : WX} {g g' g1 g2 : Gh} {S S' S1 S2 : Sto} {H H' H1 H2 : Hp} {X : Cx} {v u : V} {vs : List V} {f f1 f2 fp : List Addr} {σ σ' : L2.St} {env env' : EnvD} {k : Kd} {d : D} {N : Addr → Prop} {D : Ends} {Q : VK}
theorem RetOk.from (gr : Gr T0 g S H g1 S1 H1) (h : RetOk W g S H k d S2 Q) : RetOk W g1 S1 H1 k d S2 Q := fun g' H' v fp R gr' rk fr => h g' H' v fp R (gr.trans0 gr') rk (fr.imp fun a _ z => new_back gr z)
theorem SoP.from {r : SO} (gr : Gr T0 g S H g1 S1 H1) (h : SoP W wx g S H r D) : SoP W wx g1 S1 H1 r D := by
  cases r with
  | nx e s => exact fun g' H' σ' R gr' eo => h g' H' σ' R (gr.trans0 gr') eo
  | ct e s => exact fun g' H' σ' R gr' eo => h g' H' σ' R (gr.trans0 gr') eo
  | ret k d s => exact RetOk.from gr h
  | exc c e s => exact fun g' H' σ' R gr' eo => h g' H' σ' R (gr.trans0 gr') eo
  | stuck => exact h
theorem so_ev {r : R Res} {f : Res → SO} (h : SoP W wx g S H (r.so env f) D) (eo : EnvOk W g σ env) (k : ∀ k d S1 m, r = .ok (k, d, S1, m) → SoP W wx g S H (f (k, d, S1, m)) D → PoR W g S H k d S1 m Q) : EvP W wx σ g S H r Q := by
  cases r with
  | ok a => obtain ⟨k0, d0, S1, m⟩ := a; exact k _ _ _ _ rfl h
  | exc c S' => exact fun g' H' R gr => h g' H' σ R gr (eo.mono gr)
  | stuck => exact h.elim
theorem so_c {r : R (Bool × Sto × Bool)} {f : Bool × Sto × Bool → SO} {Q : Bool → Hp → Prop} (h : SoP W wx g S H (r.so env f) D) (eo : EnvOk W g σ env)
    (k : ∀ b S1 m, r = .ok (b, S1, m) → SoP W wx g S H (f (b, S1, m)) D → CdP W wx σ g S H (.ok (b, S1, m)) Q) : CdP W wx σ g S H r Q := by
  cases r with
  | ok a => obtain ⟨b, S1, m⟩ := a; exact k _ _ _ rfl h
  | exc c S' => exact fun g' H' R gr => h g' H' σ R gr (eo.mono gr)
  | stuck => exact h.elim
theorem isCon_ref {j : Nat} {ρ : Rho} {G : Hp} (h : Rt W ρ G H d (j + 1) v f) (c : isCon d = true) : ∃ a, v = .ref a := by
  cases d <;> first
    | (cases c; done)
    | skip
  · obtain ⟨a, _, _, e, _⟩ := h; exact ⟨a, e⟩
  · obtain ⟨a, _, _, e, _⟩ := h; exact ⟨a, e⟩
  · obtain ⟨a, _, _, e, _⟩ := h; exact ⟨a, e⟩
  · obtain ⟨a, _, _, _, e, _⟩ := h; exact ⟨a, e⟩
theorem bindV_ok {i : Nat} {b : Option (Nat × Bool)} (R : Rg W g S H) (rk : RK W g S H (k, d) v f) (fr : Fre g S N f) (eo : EnvOk W g σ env) (e : bindV env S i b (k, d) = some (env', S')) :
    ∃ g', Rg W g' S' H ∧ Gr (· ∈ f) g S H g' S' H ∧ EnvOk W g' (σ.set i (some v)) env' := by
  have val : ∀ {lb : Bool}, asVal (k, d) = some lb → ∃ g', Rg W g' S H ∧ Gr (· ∈ f) g S H g' S H ∧ EnvOk W g' (σ.set i (some v)) (env.set i (some (lb, d))) := fun {lb} e => by
    obtain ⟨g', R', gr, rv, _⟩ := asVal_rk R rk fr.nd (fre_T fr) e
    exact ⟨g', R', gr, (((eo.mono gr).toX (ex := fun _ => False)).set rv i).ok fun _ z => z.1⟩
  have plain : ∀ {o : Option (EnvD × Sto)}, o = (asVal (k, d)).map (fun l => (env.set i (some (l, d)), S)) → o = some (env', S') → ∃ g', Rg W g' S' H ∧ Gr (· ∈ f) g S H g' S' H ∧ EnvOk W g' (σ.set i (some v)) env' := fun {o} e1 e2 => by
    rw [e1] at e2
    obtain ⟨lb, e3, e4⟩ := Option.map_eq_some_iff.mp e2
    cases e4
    exact val e3
  cases b with
  | none => exact plain rfl e
  | some q =>
    obtain ⟨dp, ln⟩ := q
    have e' : (if isCon d then (if fits (dp + 1) ln (k, d) then some (env.set i (some (false, .bx S.length)), S ++ [some ⟨dp + 1, ln, false, d⟩]) else none)
      else (asVal (k, d)).map fun l => (env.set i (some (l, d)), S)) = some (env', S') := e
    by_cases c : isCon d = true
    · rw [if_pos c] at e'
      obtain ⟨ft, e2⟩ := ite_some e'
      cases e2
      obtain ⟨g1, f', s, R1, gr1, rt, nd, t1, o3, o4⟩ := fits_cells R rk fr ft
      obtain ⟨a, rfl⟩ := isCon_ref rt c
      obtain ⟨R2, gr2⟩ := R1.boxN (b := ⟨dp + 1, ln, false, d⟩) rt nd t1 rfl
      have gr := (gr1.trans gr2).imp (T2 := (· ∈ f)) fun a z => .inr (.inr (z.elim id fun z => s.subset z))
      refine ⟨_, R2, gr, (((eo.mono gr).toX (ex := fun _ => False)).set (lb := false) (d := .bx S.length) (v := .ref a) ⟨a, if_pos rfl, rfl⟩ i).ok fun _ z => z.1⟩
    · rw [if_neg c] at e'
      exact plain rfl e'
theorem notComp_sw {e : Expr} {tg : Expr} {ln : Nat} {env : Env} (h : notComp e = true) : swapsWith e (some tg) ln env = pure false := by
  cases e <;> first
    | (cases h; done)
    | rfl
theorem notComp_sw0 {e : Expr} {ln : Nat} {env : Env} (h : notComp e = true) : swapsWith e none ln env = pure false := by
  cases e <;> first
    | (cases h; done)
    | rfl
theorem notTup_sw {e tg : Expr} {env : Env} (h : notTup e = true) : swappedStores [tg] e env = pure none := by
  cases e <;> first
    | (cases h; done)
    | (cases tg <;> rfl)
theorem sw_eq (C : Cf X W t P F n l wx) {e : Expr} {y : Str} {py : Pos} {ln : Nat} (h : swK l e = true) : swapsWith e (some (.Name y py)) ln X.env = pure (swB l y py e) := by
  cases e <;> first
    | (cases h; done)
    | rfl
    | skip
  rename_i elt gs sc pos
  have hk : X.env.scope.kind = .function := by
    have h' : (match l.sc.kind with
      | .function => true
      | _ => false) = true := h
    rw [C.sc]
    split at h'
    · assumption
    · cases h'
  have hb : X.env.blockKind = .function := by unfold Env.blockKind; rw [hk]; rfl
  have e1 : (X.env.kindOf y == some NameKind.local) = kindB l y .local := by
    show (X.env.scope.names.lookup y == some NameKind.local) = _
    rw [C.sc]
    unfold kindB
    cases q : l.sc.names.lookup y with
    | none => rfl
    | some z => cases z <;> rfl
  unfold swapsWith
  show (pure (X.env.blockKind == .function && X.env.kindOf y == some .local && py.line == pos.line && !(sc.names.any fun (n, k) => n == y && (k == .local || k == .cell))) : Sem Bool) = _
  rw [hb, e1]
  rfl
end
end Z

namespace Z
open PySem L2 PySem.Spec PyProof.Rows
section
variable {W : Wr} {t : Tb} {P : Pg} {F : Fns} {n : Nat} {l : Lc} {wx : WX} {g g' g1 g2 : Gh} {S S' S1 S2 : Sto} {H H' H1 H2 : Hp} {X : Cx} {v u : V} {vs : List V} {f f1 f2 fp : List Addr} {σ σ' : L2.St} {env env' : EnvD} {k : Kd} {d : D} {N : Addr → Prop} {D : Ends} {Q : VK}
theorem oso_some {α : Type} {r : Option α} {f : α → SO} (h : SoP W wx g S H (oso r f) D) : ∃ a, r = some a ∧ SoP W wx g S H (f a) D := by
  cases r with
  | none => exact h.elim
  | some a => exact ⟨a, rfl, h⟩
theorem tgB_name {y : Str} {py : Pos} {i : Nat} (h : tgB l (.Name y py) i = true) : l.N[i]? = some y := by
  have h' : (decide (l.N[i]? = some y) && (kindB l y .local || (kindB l y .cell && l.fn y))) = true := h
  exact of_decide_eq_true (Bool.and_eq_true_iff.mp h').1
theorem case_asg {i : Nat} {b : Option (Nat × Bool)} {e : E} : StS W t P F n (.asg i b e) := fun {X l wx} C sq {x} hm {env S g H σ D} R eo h => by
  have hm' : ∃ y py v pos, x = .Assign [.Name y py] v pos ∧ (tgB l (.Name y py) i && mE t P l e v && swK l v) = true := by
    cases x <;> first
      | (cases hm; done)
      | skip
    rename_i ts v pos
    rcases ts with _ | ⟨tg, _ | ⟨t2, r⟩⟩
    · cases hm
    · cases tg <;> first
        | (cases hm; done)
        | exact ⟨_, _, _, _, rfl, hm⟩
    · cases tg <;> cases hm
  obtain ⟨y, py, v, pos, rfl, hm'⟩ := hm'
  simp only [Bool.and_eq_true] at hm'
  obtain ⟨⟨m1, m2⟩, m3⟩ := hm'
  have fin : ∀ {te : TE}, PS X (.Assign [.Name y py] v pos) (tAsg te (gName i)) → (∀ {Q : VK}, EvP W wx σ g S H (ev (gamW W P n) e env S) Q → te σ H Q) → uSt X (.Assign [.Name y py] v pos) D σ H := fun {te} ps run => by
    refine uSt_of ps (run (so_ev h eo fun k d S1 m e1 h2 => ?_))
    obtain ⟨⟨e', S2⟩, e2, h3⟩ := oso_some h2
    intro g1 H1 v1 fp R1 gr1 hm1 rk1 fr1
    obtain ⟨g2, R2, gr2, eo2⟩ := bindV_ok R1 rk1 fr1 (eo.mono gr1) e2
    exact h3 g2 H1 _ R2 (gr1.trans1 fr1 gr2) eo2
  have hsw := sw_eq (py := py) (y := y) (ln := pos.line) C m3
  obtain ⟨p1, _⟩ := pg_of C m1
  cases q : swB l y py v with
  | false =>
    rw [q] at hsw
    exact fin (ps_asg pe_u p1 hsw (by cases v <;> rfl) rfl) fun h => ev_ok e C m2 R eo h
  | true =>
    rw [q] at hsw
    cases v <;> first
      | (cases q; done)
      | skip
    rename_i elt gs sc lpos
    have q' : (kindB l y .local && (py.line == lpos.line) && !(sc.names.any fun (n, k) => n == y && (k == .local || k == .cell))) = true := q
    simp only [Bool.and_eq_true] at q'
    have hl : X.env.scope.names.lookup y = some .local := by rw [C.sc]; exact of_decide_eq_true q'.1.1
    have hy : X.N[i]? = some y := by rw [C.N]; exact tgB_name m1
    cases e <;> first
      | (cases m2; done)
      | skip
    all_goals first
      | (exfalso
         rename_i o es
         have m2' : (match mOp t l o (.ListComp elt gs sc lpos) with
           | some xs => mEs t P l es xs
           | none => false) = true := (Bool.and_eq_true_iff.mp (show ((!l.hot || hotOp o) && match mOp t l o (.ListComp elt gs sc lpos) with
           | some xs => mEs t P l es xs
           | none => false) = true from m2)).2
         have z : mOp t l o (.ListComp elt gs sc lpos) = none := by
           unfold mOp
           cases o <;> first
             | rfl
             | (rename_i a b; cases a <;> cases b <;> rfl)
         rw [z] at m2'
         cases m2'
         done)
      | skip
    rename_i dp ln tg tp it ifs elt'
    obtain ⟨x0, tgx, itx, ifx, sc', pos', e1, hm2⟩ := lc_form m2
    cases e1
    have hm3 := hm2
    simp only [Bool.and_eq_true] at hm3
    obtain ⟨⟨⟨⟨⟨⟨⟨w0, w1⟩, w2⟩, w3⟩, w4⟩, w5⟩, w6⟩, w7⟩ := hm3
    have hc : l.hot = false := by simpa using w0
    exact fin (ps_setLcU (tp := tp) C hc (by rw [C.N, C.sc]; exact blkOk_by w2) hy hl hsw (fun s H C0 cl fp => tg_pg (C.blk hc s H sc C0 cl fp) hc w3) (mIt_plain w5)) fun h => lc_run (it_ok it) (cds_ok ifs) (ev_ok elt') C hm2 R eo h
theorem case_unp {is : List Nat} {e : E} : StS W t P F n (.unp is e) := fun {X l wx} C sq {x} hm {env S g H σ D} R eo h => by
  have hm' : ∃ es kk py v pos, x = .Assign [.Tuple es kk py] v pos ∧ (!l.hot && decide (es.length = is.length) && (es.zip is).all (fun (e, i) => tgB l e i) && mE t P l e v && notComp v && notTup v) = true := by
    cases x <;> first
      | (cases hm; done)
      | skip
    rename_i ts v pos
    rcases ts with _ | ⟨tg, _ | ⟨t2, r⟩⟩
    · cases hm
    · cases tg <;> first
        | (cases hm; done)
        | exact ⟨_, _, _, _, _, rfl, hm⟩
    · cases tg <;> cases hm
  obtain ⟨es, kk, py, v, pos, rfl, hm'⟩ := hm'
  simp only [Bool.and_eq_true] at hm'
  obtain ⟨⟨⟨⟨⟨m0, m1⟩, m2⟩, m3⟩, m4⟩, m5⟩ := hm'
  have hc : l.hot = false := by simpa using m0
  obtain ⟨q1, q2, q3⟩ := pgs_of C (of_decide_eq_true m1) m2
  refine uSt_of (ps_asg pe_u (pg_tup (C.calm hc) q1 q2 q3) (by
      show swapsWith v (some (.Tuple es kk py)) pos.line X.env = pure false
      exact notComp_sw m4) (notTup_sw m5) rfl) (ev_ok e C m3 R eo (so_ev h eo fun k d S1 m e1 h2 => ?_))
  obtain ⟨e', e2, h3⟩ := oso_some h2
  intro g1 H1 v1 fp R1 gr1 hm1 rk1 fr1
  cases d <;> first
    | (cases e2; done)
    | skip
  rename_i xs
  have e2' : (if xs.length = is.length then (settle S1 k xs).map fun l => (is.zip xs).foldl (fun e p => e.set p.1 (some (if p.2.imm then false else l, p.2))) env else none) = some e' := e2
  by_cases hl : xs.length = is.length
  case neg => rw [if_neg hl] at e2'; cases e2'
  rw [if_pos hl] at e2'
  have e3 := e2'
  obtain ⟨lb, e4, e5⟩ := Option.map_eq_some_iff.mp e3
  rw [foldl_setE (f := fun d => (if d.imm then false else lb, d))] at e5
  subst e5
  obtain ⟨a, us, g2, rfl, w2, R2, gr2, rv⟩ := tup_rk R1 rk1 fr1 e4
  have hlv := rv.length
  refine ⟨a, us, rfl, TupV.sq w2, by omega, gsN_ok (by omega) (h3 g2 H1 _ R2 (gr1.trans1 fr1 gr2) ((((eo.mono (gr1.trans1 fr1 gr2)).toX (ex := fun _ => False)).setL (fd := fun d => (if d.imm then false else lb, d)) (fun _ => rfl) hl.symm fun i d hd => ?_).ok fun j z => z.1))⟩
  obtain ⟨v, hv, rv⟩ := rv.get hd
  refine ⟨v, hv, ?_⟩
  cases q : d.imm with
  | true => exact Rv.imm R2.tup q (Rv.mono (R2.G_h lb) (fun _ _ z => z) rv)
  | false => exact rv
theorem case_ex {e : E} : StS W t P F n (.ex e) := fun {X l wx} C sq {x} hm {env S g H σ D} R eo h => by
  cases x <;> first
    | (cases hm; done)
    | skip
  rename_i v pos
  obtain ⟨m1, m2⟩ := Bool.and_eq_true_iff.mp (show (mE t P l e v && notComp v) = true from hm)
  refine uSt_of (ps_expr pe_u (notComp_sw0 m2)) (ev_ok e C m1 R eo (so_ev h eo fun k d S1 m e1 h2 => ?_))
  intro g1 H1 v1 fp R1 gr1 hm1 rk1 fr1
  exact h2 g1 H1 σ R1 gr1 (eo.mono gr1)
theorem case_ret {e : E} : StS W t P F n (.ret e) := fun {X l wx} C sq {x} hm {env S g H σ D} R eo h => by
  cases x <;> first
    | (cases hm; done)
    | skip
  rename_i v pos
  cases v with
  | none => cases hm
  | some v =>
    refine uSt_of (ps_ret pe_u) (ev_ok e C (x := v) hm R eo (so_ev h eo fun k d S1 m e1 h2 => ?_))
    have h3 : SoP W wx g S H (if isTn (k, d) = true then .stuck else .ret k d S1) D := h2
    by_cases q : isTn (k, d) = true
    · rw [if_pos q] at h3; exact h3.elim
    · rw [if_neg q] at h3
      exact fun g' H' v fp R' gr hm' rk fr => h3 g' H' v fp R' gr rk fr
theorem case_retN : StS W t P F n .retN := fun {X l wx} C sq {x} hm {env S g H σ D} R eo h => by
  cases x <;> first
    | (cases hm; done)
    | skip
  rename_i v pos
  cases v with
  | some v => cases hm
  | none => exact uSt_of ps_retN (h g H .non [] R Gr.refl ⟨rfl, rfl⟩ Fre.nil)
theorem case_pass : StS W t P F n .pass := fun {X l wx} C sq {x} hm {env S g H σ D} R eo h => by
  cases x <;> first
    | (cases hm; done)
    | exact uSt_of ps_pass (h g H σ R Gr.refl eo)
theorem case_cont : StS W t P F n .cont := fun {X l wx} C sq {x} hm {env S g H σ D} R eo h => by
  cases x <;> first
    | (cases hm; done)
    | exact uSt_of ps_continue (h g H σ R Gr.refl eo)
theorem case_raise {c : Nat} : StS W t P F n (.raise c) := fun {X l wx} C sq {x} hm {env S g H σ D} R eo h => by
  have hm' : ∃ y p m j p2 p3 pos, x = .Raise (some (.Call (.Name y p) [.Constant (.str m) j p2] [] p3)) none pos ∧ (!l.hot && decide (t.exc[c]? = some y) && okNm y && gloB l y) = true := by
    unfold mS at hm
    split at hm <;> first
      | (cases hm; done)
      | skip
    all_goals (rename_i e; first
      | (cases e; done)
      | (cases e; exact ⟨_, _, _, _, _, _, _, rfl, hm⟩))
  obtain ⟨y, p, m, j, p2, p3, pos, rfl, hm'⟩ := hm'
  simp only [Bool.and_eq_true, decide_eq_true_eq] at hm'
  obtain ⟨⟨⟨m0, m1⟩, m2⟩, m3⟩ := hm'
  have hc : l.hot = false := by simpa using m0
  obtain ⟨x1, x2, x3, bmB, B, newId, initId, x4, x5⟩ := C.exc c y m1
  exact uSt_of (ps_raise (C.calm hc) C.tk (pmk_own x4 x5 x1 x2 x3 (glo_of C.toFt m3) (okNm_of m2).1)) (h g H σ R Gr.refl eo)
end
end Z

namespace Z
open PySem L2 PySem.Spec PyProof.Rows
section
variable {W : Wr} {t : Tb} {P : Pg} {F : Fns} {n : Nat} {l : Lc} {wx : WX} {g g' g1 g2 : Gh} {S S' S1 S2 : Sto} {H H' H1 H2 : Hp} {X : Cx} {v u : V} {vs : List V} {f f1 f2 fp : List Addr} {σ σ' : L2.St} {env env' : EnvD} {k : Kd} {d : D} {N : Addr → Prop} {D : Ends} {Q : VK}
theorem rk_keep1 (gr : Gr T0 g1 S1 H1 g2 S2 H2) (rk : RK W g1 S1 H1 (k, d) v f) (fr : Fre g1 S1 N f) (q : isTn (k, d) = false) : RK W g2 S2 H2 (k, d) v f ∧ Fre g2 S2 N f :=
  ⟨rk.keep gr q fun b hb => ⟨(fr.fr b hb).2.1, fun z => z⟩, fr.keep gr (fun a ha => rk.there a ha) fun _ _ z => z⟩
theorem case_sub {o i e : E} : StS W t P F n (.sub o i e) := fun {X l wx} C sq {x} hm {env S g H σ D} R eo h => by
  have hm' : ∃ ox ix py v pos, x = .Assign [.Subscript ox ix py] v pos ∧ (mE t P l o ox && mE t P l i ix && noSl ix && mE t P l e v && notComp v) = true := by
    cases x <;> first
      | (cases hm; done)
      | skip
    rename_i ts v pos
    rcases ts with _ | ⟨tg, _ | ⟨t2, r⟩⟩
    · cases hm
    · cases tg <;> first
        | (cases hm; done)
        | exact ⟨_, _, _, _, _, rfl, hm⟩
    · cases tg <;> cases hm
  obtain ⟨ox, ix, py, v, pos, rfl, hm'⟩ := hm'
  simp only [Bool.and_eq_true] at hm'
  obtain ⟨⟨⟨⟨m1, m2⟩, m3⟩, m4⟩, m5⟩ := hm'
  refine uSt_of (ps_asg pe_u (pg_sub pe_u pe_u uSet_ok (by
      intro v
      cases ix <;> first
        | rfl
        | cases m3)) (by
      show swapsWith v (some (.Subscript ox ix py)) pos.line X.env = pure false
      exact notComp_sw m5) (by cases v <;> rfl) rfl) (ev_ok e C m4 R eo (so_ev h eo fun k d S1 m e1 h2 => ?_))
  have h3 : SoP W wx g S H (if isTn (k, d) = true then .stuck else (ev (gamW W P n) o env S1).so env fun (k0, d0, _, m0) => if m0 then .stuck else
      (ev (gamW W P n) i env S1).so env fun (k2, d2, _, m2) => if m2 then .stuck else oso ((place S1 (k0, d0)).bind fun (n, p, b, x) => (setv (b.dp - p.length - 1) b.ln x d2 (k, d)).map fun x' => setB S1 n (pathSet b.d p x')) fun S2 => .nx env S2) D := h2
  by_cases q : isTn (k, d) = true
  · rw [if_pos q] at h3; exact h3.elim
  · rw [if_neg q] at h3
    have q' : isTn (k, d) = false := by simpa using q
    intro g1 H1 v1 f1 R1 gr1 hm1 rk1 fr1
    have eo1 := eo.mono gr1
    refine ev_ok o C m1 R1 eo1 (so_ev (h3.from gr1) eo1 fun k0 d0 S2 mm e2 _ => ?_)
    rw [e2] at h3
    intro g2 H2 v2 f2 R2 gr2 hm2 rk2 fr2
    cases mm with
    | true => exact h3.elim
    | false =>
    obtain ⟨rfl, ex2⟩ := hm2 rfl
    have eo2 := eo1.mono gr2
    have h5 : SoP W wx g S H ((ev (gamW W P n) i env S2).so env fun (k2, d2, _, m2) => if m2 then .stuck else oso ((place S2 (k0, d0)).bind fun (n, p, b, x) => (setv (b.dp - p.length - 1) b.ln x d2 (k, d)).map fun x' => setB S2 n (pathSet b.d p x')) fun S2 => .nx env S2) D := h3
    refine ev_ok i C m2 R2 eo2 (so_ev (h5.from (gr1.trans0 gr2)) eo2 fun k2 d2 S3 mm e3 _ => ?_)
    rw [e3] at h5
    intro g3 H3 v3 f3 R3 gr3 hm3 rk3 fr3
    cases mm with
    | true => exact h5.elim
    | false =>
    obtain ⟨rfl, ex3⟩ := hm3 rfl
    have h7 : SoP W wx g S H (oso ((place S3 (k0, d0)).bind fun (n, p, b, x) => (setv (b.dp - p.length - 1) b.ln x d2 (k, d)).map fun x' => setB S3 n (pathSet b.d p x')) fun S2 => .nx env S2) D := h5
    obtain ⟨S4, e4, h8⟩ := oso_some h7
    obtain ⟨⟨nb, p, b, xd⟩, e5, e6⟩ := Option.bind_eq_some_iff.mp e4
    obtain ⟨x', e7, e8⟩ := Option.map_eq_some_iff.mp e6
    subst e8
    obtain ⟨c1, k3, lv, lk, hr, pt, hd⟩ := place_rk R2 R3 gr3 rk2 (.inr ⟨rfl, ex3⟩) e5
    have hk : b.dp - p.length - 1 = k3 := by omega
    rw [hk] at e7
    obtain ⟨rk1', fr1'⟩ := rk_keep1 (gr2.trans0 gr3) rk1 fr1 q'
    refine setv_ok (by have := C.un; omega) R3 lv lk hr pt rk1' fr1' (rk3.read R3) e7 fun g4 H4 R4 gr4 => ?_
    have grA := (gr1.trans0 (gr2.trans0 gr3)).trans1 fr1' gr4
    exact h8 g4 H4 σ R4 grA (eo.mono grA)
theorem case_fld {o e : E} {fl : Str} : StS W t P F n (.fld o fl e) := fun {X l wx} C sq {x} hm {env S g H σ D} R eo h => by
  have hm' : ∃ ox fx py v pos, x = .Assign [.Attribute ox fx py] v pos ∧ (decide (fx = fl) && decide (fl ∈ t.flds) && mE t P l o ox && mE t P l e v && notComp v) = true := by
    cases x <;> first
      | (cases hm; done)
      | skip
    rename_i ts v pos
    rcases ts with _ | ⟨tg, _ | ⟨t2, r⟩⟩
    · cases hm
    · cases tg <;> first
        | (cases hm; done)
        | exact ⟨_, _, _, _, _, rfl, hm⟩
    · cases tg <;> cases hm
  obtain ⟨ox, fx, py, v, pos, rfl, hm'⟩ := hm'
  simp only [Bool.and_eq_true, decide_eq_true_eq] at hm'
  obtain ⟨⟨⟨⟨rfl, m2⟩, m3⟩, m4⟩, m5⟩ := hm'
  refine uSt_of (ps_fld pe_u pe_u (notComp_sw m5)) (ev_ok e C m4 R eo (so_ev h eo fun k d S1 m e1 h2 => ?_))
  have h3 : SoP W wx g S H (if isTn (k, d) = true then .stuck else (ev (gamW W P n) o env S1).so env fun (k0, d0, _, m0) => if m0 then .stuck else
      oso ((place S1 (k0, d0)).bind fun (n, p, b, x) => (setf (b.dp - p.length - 1) b.ln x fx (k, d)).map fun x' => setB S1 n (pathSet b.d p x')) fun S2 => .nx env S2) D := h2
  by_cases q : isTn (k, d) = true
  · rw [if_pos q] at h3; exact h3.elim
  · rw [if_neg q] at h3
    have q' : isTn (k, d) = false := by simpa using q
    intro g1 H1 v1 f1 R1 gr1 hm1 rk1 fr1
    have eo1 := eo.mono gr1
    refine ev_ok o C m3 R1 eo1 (so_ev (h3.from gr1) eo1 fun k0 d0 S2 mm e2 _ => ?_)
    rw [e2] at h3
    intro g2 H2 v2 f2 R2 gr2 hm2 rk2 fr2
    cases mm with
    | true => exact h3.elim
    | false =>
    obtain ⟨rfl, ex2⟩ := hm2 rfl
    have h7 : SoP W wx g S H (oso ((place S2 (k0, d0)).bind fun (n, p, b, x) => (setf (b.dp - p.length - 1) b.ln x fx (k, d)).map fun x' => setB S2 n (pathSet b.d p x')) fun S2 => .nx env S2) D := h3
    obtain ⟨S4, e4, h8⟩ := oso_some h7
    obtain ⟨⟨nb, p, b, xd⟩, e5, e6⟩ := Option.bind_eq_some_iff.mp e4
    obtain ⟨x', e7, e8⟩ := Option.map_eq_some_iff.mp e6
    subst e8
    obtain ⟨c1, k3, lv, lk, hr, pt, hd⟩ := place_rk R2 R2 Gr.refl rk2 (.inr ⟨rfl, Ex.refl _⟩) e5
    have hk : b.dp - p.length - 1 = k3 := by omega
    rw [hk] at e7
    obtain ⟨rk1', fr1'⟩ := rk_keep1 gr2 rk1 fr1 q'
    obtain ⟨c, cl, dx, fs, z1, z2, z3, z4⟩ := setf_ok (Q := fun H4 => D.nx σ H4) R2 lv lk hr pt rk1' fr1' e7 fun g4 H4 R4 gr4 => by
      have grA := (gr1.trans0 gr2).trans1 fr1' gr4
      exact h8 g4 H4 σ R4 grA (eo.mono grA)
    obtain ⟨z5, z6⟩ := C.fl cl fx m2
    exact ⟨c, W.cl cl, dx, fs, z1, z2, by rw [C.K]; exact z5, by rw [C.K]; exact z6, z3, z4⟩
theorem case_ite {c : Cd} {a b : List St} (iha : StsS W t P F n a) (ihb : StsS W t P F n b) : StS W t P F n (.ite c a b) := fun {X l wx} C sq {x} hm {env S g H σ D} R eo h => by
  cases x <;> first
    | (cases hm; done)
    | skip
  rename_i cx ax bx pos
  have hm' : (mC t P l c cx && mSs t P l a ax && mSs t P l b bx) = true := hm
  simp only [Bool.and_eq_true] at hm'
  obtain ⟨⟨m1, m2⟩, m3⟩ := hm'
  refine uSt_of (ps_if pt_u pss_u pss_u) (cd_ok c C m1 R eo (so_c h eo fun q S1 m e1 h2 => ?_))
  intro g1 H1 R1 gr1 hm1
  have h3 : SoP W wx g S H (if q = true then exs (gamW W P n) a env S1 else exs (gamW W P n) b env S1) D := h2
  cases q with
  | true =>
    rw [if_pos rfl] at h3 ⊢
    exact iha C sq m2 R1 (eo.mono gr1) (h3.from gr1)
  | false =>
    rw [if_neg (by decide)] at h3 ⊢
    exact ihb C sq m3 R1 (eo.mono gr1) (h3.from gr1)
theorem Cf.nox (C : Cf X W t P F n l wx) : Cf X.nox W t P F n l (fun _ _ _ _ => False) := { C with tk := takes0, own := PassesOwn.never }
theorem case_tr0 {b : List St} (ih : StsS W t P F n b) : StS W t P F n (.tr0 b) := fun {X l wx} C sq {x} hm {env S g H σ D} R eo h => by
  cases x <;> first
    | (cases hm; done)
    | skip
  rename_i body hs orelse fin pos
  rcases hs with _ | ⟨h0, hs⟩
  · cases hm
  cases orelse <;> cases fin <;> first
    | (cases hm; done)
    | skip
  obtain ⟨_, m1⟩ := Bool.and_eq_true_iff.mp (show (!l.hot && mSs t P l b body) = true from hm)
  refine uSt_of (ps_try_thru0 pss_u) (ih C.nox sq (xs := body) m1 R eo ?_)
  have h' : SoP W wx g S H (match exs (gamW W P n) b env S with
    | .exc _ _ _ => .stuck
    | r => r) D := h
  cases e : exs (gamW W P n) b env S with
  | nx e' s' => rw [e] at h'; exact h'
  | ct e' s' => rw [e] at h'; exact h'
  | ret k d s' => rw [e] at h'; exact h'
  | exc c e' s' => rw [e] at h'; exact h'.elim
  | stuck => rw [e] at h'; exact h'.elim
/-- a box that is none, at the store's end -/
def Gh.mark (g : Gh) (n : Nat) (a : Addr) : Gh := ⟨g.F, g.L, fun m => if m = n then some a else g.r m, g.fp⟩
theorem live_none {m : Nat} {b : Bx} : Live (S ++ [none]) m b ↔ Live S m b := by
  unfold Live
  by_cases e : m < S.length
  · rw [List.getElem?_append_left e]
  · rw [List.getElem?_append_right (Nat.le_of_not_lt e), List.getElem?_eq_none (Nat.le_of_not_lt e)]
    rcases q : m - S.length with _ | j
    · simp
    · simp
theorem Rg.mark (R : Rg W g S H) (a : Addr) : Rg W (g.mark S.length a) (S ++ [none]) H ∧ Gr T0 g S H (g.mark S.length a) (S ++ [none]) H := by
  have rl : RhoLe g.r (g.mark S.length a).r := fun n x e => by
    have := R.rho n x e
    show (if n = S.length then some a else g.r n) = some x
    rw [if_neg (by omega)]; exact e
  constructor
  · refine ⟨R.fl, R.lh, R.tup, fun n c l => ?_, fun n c l => R.nd n c (live_none.mp l), fun n m c e l1 l2 ne x hx hy => R.dis n m c e (live_none.mp l1) (live_none.mp l2) ne x hx hy, fun n c l x hx => R.off n c (live_none.mp l) x hx, fun n x e => ?_⟩
    · obtain ⟨x, e1, e2⟩ := R.box n c (live_none.mp l)
      exact ⟨x, rl _ _ e1, Rt.mono (Ex.refl _) rl (fun _ _ _ z => z) e2⟩
    · rw [List.length_append]
      show n < S.length + 1
      have e' : (if n = S.length then some a else g.r n) = some x := e
      by_cases z : n = S.length
      · omega
      · rw [if_neg z] at e'; have := R.rho n x e'; omega
  · refine ⟨Ex.refl _, Ex.refl _, rl, fun x o e _ _ => e, fun x e => .inl e, fun x e => .inl e, fun x e => ?_, fun n c e => ⟨⟨fun l => live_none.mpr l, fun l => live_none.mp l⟩, fun l => rfl⟩, by simp⟩
    obtain ⟨n, c, l, e, hx⟩ := e
    exact .inl ⟨n, c, live_none.mp l, e, hx⟩
theorem EnvOk.at' {x : Option (Nat × Addr × Nat)} (e : EnvOk W g σ env) (h : ∀ m a k, x = some (m, a, k) → g.r m = some a) : EnvOk (W.at_ x) g σ env := ⟨⟨e.1.1, h⟩, fun i l d q => by
  obtain ⟨v, h1, h2⟩ := e.2 i l d q
  exact ⟨v, h1, by rw [rv_xs]; exact h2⟩⟩
theorem EnvOk.back' {x : Option (Nat × Addr × Nat)} (e : EnvOk (W.at_ x) g σ env) (h : XsOk W g) : EnvOk W g σ env := ⟨⟨e.1.1, h⟩, fun i l d q => by
  obtain ⟨v, h1, h2⟩ := e.2 i l d q
  exact ⟨v, h1, by rw [rv_xs] at h2; exact h2⟩⟩
theorem EnvOk.gone (e : EnvOk W g σ env) (i : Nat) : EnvOk W g (σ.set i none) (env.set i none) := ⟨⟨by simp [e.1.1], e.1.2⟩, fun j l d q => by
  by_cases hj : j = i
  · subst hj
    by_cases hl : j < env.length
    · rw [List.getElem?_set_self hl] at q; cases q
    · rw [List.getElem?_eq_none (by simpa using hl)] at q; cases q
  · rw [List.getElem?_set_ne (Ne.symm hj)] at q ⊢
    exact e.2 j l d q⟩
theorem EnvOk.errN (e : EnvOk W g σ env) {i m : Nat} {a : Addr} (r : g.r m = some a) : EnvOk W g (σ.set i (some (.ref a))) (env.set i (some (true, .bx m))) := ⟨⟨by simp [e.1.1], e.1.2⟩, fun j l d q => by
  by_cases hj : j = i
  · subst hj
    by_cases hl : j < env.length
    · rw [List.getElem?_set_self hl] at q
      cases q
      exact ⟨.ref a, List.getElem?_set_self (by rw [← e.1.1]; exact hl), a, r, rfl⟩
    · rw [List.getElem?_eq_none (by simpa using hl)] at q; cases q
  · rw [List.getElem?_set_ne (Ne.symm hj)] at q ⊢
    exact e.2 j l d q⟩
theorem RetOk.at' {x : Option (Nat × Addr × Nat)} (h : RetOk W g S H k d S2 Q) : RetOk (W.at_ x) g S H k d S2 Q := fun g' H' v fp R gr rk fr => h g' H' v fp (rg_xs.mp R) gr (rk_xs.mp rk) fr
theorem hotq_of {a : Addr} {oe : Obj} {pn : List (Addr × Obj)} {m k nx : Nat} (hz : Zc (.ref (W.xc k)) none oe) (hf : ∃ ws, oe.data = .fields ws) (hk : k < nx) : HotQ (X.suite a ((a, oe) :: pn)) (W.at_ (some (m, a, k))) nx := ⟨m, a, k, oe, rfl, List.mem_cons_self, hz, hf, hk⟩
theorem Cf.suite (C : Cf X W t P F n l wx) (hc : l.hot = false) {a : Addr} {oe : Obj} {pn : List (Addr × Obj)} {m k : Nat} (hz : Zc (.ref (W.xc k)) none oe) (hf : ∃ ws, oe.data = .fields ws) (hk : k < P.nx) :
    Cf (X.suite a ((a, oe) :: pn)) (W.at_ (some (m, a, k))) t P F n ⟨l.N, l.sc, l.fn, true⟩ (fun _ _ _ _ => False) :=
  { K := C.K, N := C.N, nd := C.nd, sc := C.sc, calm := fun z => by cases z
    un := C.un, free := C.free
    con := fun x d h => by
      obtain ⟨v, u, h1, h2, h3⟩ := C.con x d h
      exact ⟨v, u, h1, h2, fun ρ G => by rw [rv_xs]; exact h3 ρ G⟩
    fl := C.fl, room := fun z => by cases z
    tk := takes0, own := PassesOwn.never, exc := C.exc, fnx := C.fnx
    ok := fun z => by cases z
    psl := C.psl, mgf := C.mgf
    bnd := fun f fi hf j hj => by
      obtain ⟨ds, dvs, h1, h2, h3⟩ := C.bnd f fi hf j hj
      exact ⟨ds, dvs, h1, h2, fun ρ G => by rw [rvL_xs]; exact h3 ρ G⟩
    mth := C.mth, cls := C.cls
    hotq := fun _ => ⟨hotq_of hz hf hk, fun _ => by
      have r := C.room hc
      exact ⟨by have := r.dp; show X.A.depth + _ < _; omega, by have := r.un; show X.A.units + _ < _; omega⟩⟩
    xfa := ⟨C.xfa.len, C.xfa.cl, C.xfa.sub, C.xfa.val⟩
    xfn := fun f fi h1 h2 => ⟨(C.xfn f fi h1 h2).1, ⟨(C.xfn f fi h1 h2).2.run⟩⟩
    mkc := C.mkc }
def slotX (o : Option Nat) (σ : L2.St) (a : Addr) : L2.St := match o with
  | none => σ
  | some i => σ.set i (some (.ref a))
def endX (o : Option Nat) (D : Ends) : Ends := match o with
  | none => D
  | some i => { nx := fun σ' H' => D.nx (σ'.set i none) H', rt := D.rt, bk := fun σ' H' => D.bk (σ'.set i none) H', ct := fun σ' H' => D.ct (σ'.set i none) H' }
/-- an except suite -/
theorem suite_run {s : List St} {x : List Stmt} {k : Nat} {o : Option Nat} (ihs : ∀ x, StsS (W.at_ x) t P F n s) (C : Cf X W t P F n l wx) (sq : Sq X) (hc : l.hot = false) (m3 : mSs t P ⟨l.N, l.sc, l.fn, true⟩ s x = true)
    (R : Rg W g S H) (eo : EnvOk W g σ env) (h : SoP W wx g S H (suiteR o (exs ⟨run P n, P.cls, some (S.length, k), runX P, P.nx⟩ s (bindX o env S.length) (S ++ [none]))) D) {a : Addr} {oe : Obj} {pn : List (Addr × Obj)}
    (hz : Zc (.ref (W.xc k)) none oe) (hf : ∃ ws, oe.data = .fields ws) (hk : k < P.nx) :
    uSts (X.suite a ((a, oe) :: pn)) x (endX o D) (slotX o σ a) H := by
  obtain ⟨R2, gr2⟩ := R.mark a
  have er : (g.mark S.length a).r S.length = some a := if_pos rfl
  have eo2 : EnvOk (W.at_ (some (S.length, a, k))) (g.mark S.length a) (slotX o σ a) (bindX o env S.length) := by
    have := (eo.mono gr2).at' (x := some (S.length, a, k)) (fun m a' k' e => by cases e; exact er)
    cases o with
    | none => exact this
    | some i => exact this.errN er
  refine ihs (some (S.length, a, k)) (C.suite hc hz hf hk) sq m3 (rg_xs.mpr R2) eo2 ?_
  have x0 := eo.1.2
  show SoP (W.at_ (some (S.length, a, k))) (fun _ _ _ _ => False) (g.mark S.length a) (S ++ [none]) H (exs ⟨run P n, P.cls, some (S.length, k), runX P, P.nx⟩ s (bindX o env S.length) (S ++ [none])) (endX o D)
  cases e : exs ⟨run P n, P.cls, some (S.length, k), runX P, P.nx⟩ s (bindX o env S.length) (S ++ [none]) with
  | nx e' s' =>
    rw [e] at h
    intro g' H' σ' R' gr' eo'
    have gg := gr2.trans0 gr'
    have eo3 := eo'.back' (W := W) fun m a k q => gg.r m a (x0 m a k q)
    cases o with
    | none => exact h g' H' σ' (rg_xs.mp R') gg eo3
    | some i => exact h g' H' _ (rg_xs.mp R') gg (eo3.gone i)
  | ct e' s' =>
    rw [e] at h
    intro g' H' σ' R' gr' eo'
    have gg := gr2.trans0 gr'
    have eo3 := eo'.back' (W := W) fun m a k q => gg.r m a (x0 m a k q)
    cases o with
    | none => exact h g' H' σ' (rg_xs.mp R') gg eo3
    | some i => exact h g' H' _ (rg_xs.mp R') gg (eo3.gone i)
  | ret k' d' s' =>
    rw [e] at h
    cases o with
    | none => exact RetOk.at' (RetOk.from gr2 h)
    | some i => exact RetOk.at' (RetOk.from gr2 h)
  | exc c' e' s' => rw [e] at h; exact h.elim
  | stuck => rw [e] at h; exact h.elim
theorem case_tr {b s : List St} {c : Nat} {o : Option Nat} (ihb : StsS W t P F n b) (ihs : ∀ x, StsS (W.at_ x) t P F n s) : StS W t P F n (.tr b c o s) := fun {X l wx} C sq {x} hm {env S g H σ D} R eo h => by
  have hm' : ∃ body y np nm x0 xs p2 pos, x = .Try body [.ExceptHandler (some (.Name y np)) nm (x0 :: xs) p2] [] [] pos ∧ (!l.hot && decide (t.exc[c]? = some y) && okNm y && gloB l y && (match (generalizing := false) o, nm with
    | none, none => true
    | some i, some e => decide (l.N[i]? = some e) && kindB l e .local
    | _, _ => false) && mSs t P l b body && mSs t P ⟨l.N, l.sc, l.fn, true⟩ s (x0 :: xs)) = true := by
    cases x <;> first
      | (cases hm; done)
      | skip
    rename_i body hs orelse fin pos
    rcases hs with _ | ⟨h0, _ | ⟨h1, hr⟩⟩
    · cases hm
    · obtain ⟨ty, nm, bd, p2⟩ := h0
      cases ty with
      | none => cases hm
      | some ty =>
        cases bd with
        | nil => cases ty <;> cases hm
        | cons x0 xs =>
          cases ty <;> first
            | (cases hm; done)
            | skip
          cases orelse <;> first
            | (cases hm; done)
            | skip
          cases fin <;> first
            | (cases hm; done)
            | skip
          exact ⟨_, _, _, _, _, _, _, _, rfl, hm⟩
    · obtain ⟨ty, nm, bd, p2⟩ := h0
      rcases ty with _ | ty
      · cases hm
      · cases ty <;> cases bd <;> cases hm
  obtain ⟨body, y, np, nm, x0, xs, p2, pos, rfl, hm'⟩ := hm'
  simp only [Bool.and_eq_true, decide_eq_true_eq] at hm'
  obtain ⟨⟨⟨⟨⟨⟨m0, m1⟩, m2⟩, m3⟩, m4⟩, m5⟩, m6⟩ := hm'
  have hc : l.hot = false := by simpa using m0
  have nms : Names X y (.ref (W.xc c)) := ⟨glo_of C.toFt m3, (okNm_of m2).1, .inl (C.exc c y m1).1⟩
  have hcx : c < P.nx := by rw [← C.xfa.len]; exact (List.getElem?_eq_some_iff.mp m1).1
  have h' : SoP W wx g S H (match exs (gamW W P n) b env S with
    | .exc k e S1 => if P.nx ≤ k then .stuck else if subX k (some c) then suiteR o (exs ⟨run P n, P.cls, some (S1.length, k), runX P, P.nx⟩ s (bindX o e S1.length) (S1 ++ [none])) else .exc k e S1
    | r => r) D := h
  have main : ∀ {wo : WX} {X' : Cx}, Cf X' W t P F n l wo → Sq X' → (∀ k e1 S1, exs (gamW W P n) b env S = .exc k e1 S1 → k < P.nx → ∀ g' H' σ', Rg W g' S1 H' → Gr T0 g S H g' S1 H' → EnvOk W g' σ' e1 →
      SoP W wx g' S1 H' (if subX k (some c) then suiteR o (exs ⟨run P n, P.cls, some (S1.length, k), runX P, P.nx⟩ s (bindX o e1 S1.length) (S1 ++ [none])) else .exc k e1 S1) D → wo (.ref (W.xc k)) none σ' H') → uSts X' body D σ H := fun {wo X'} C' sq' hx => by
    refine ihb C' sq' m5 R eo ?_
    cases e : exs (gamW W P n) b env S with
    | nx e' s' => rw [e] at h'; exact h'
    | ct e' s' => rw [e] at h'; exact h'
    | ret k d s' => rw [e] at h'; exact h'
    | stuck => rw [e] at h'; exact h'.elim
    | exc k e1 S1 =>
      rw [e] at h'
      have h2 : SoP W wx g S H (if P.nx ≤ k then .stuck else if subX k (some c) then suiteR o (exs ⟨run P n, P.cls, some (S1.length, k), runX P, P.nx⟩ s (bindX o e1 S1.length) (S1 ++ [none])) else .exc k e1 S1) D := h'
      by_cases hk : P.nx ≤ k
      · rw [if_pos hk] at h2; exact h2.elim
      · rw [if_neg hk] at h2
        exact fun g' H' σ' R' gr' eo' => hx k e1 S1 e (Nat.lt_of_not_le hk) g' H' σ' R' gr' eo' (SoP.from gr' h2)
  cases o with
  | none =>
    cases nm with
    | some e => cases m4
    | none =>
      refine uSt_of (ps_try_only (tb := fun W' D σ H => ∀ pn xe, Takes (X.tr pn xe) W' → PassesOwn (model X.prog X.w) X.A X.env xe → uSts (X.tr pn xe) body D σ H)
        (ts := fun a cls d D σ H => ∀ oe pn, Zc cls d oe → (∃ vs, oe.data = .fields vs) → uSts (X.suite a ((a, oe) :: pn)) (x0 :: xs) D σ H) (Wout := wx) sq.1 sq.2 nms C.tk (fun W' pn xe tk own => ⟨fun pins s σ H D I h => h pn xe tk own pins s I⟩) (fun a oe cls d pn hz hf => ⟨fun pins s σ H D I h => h oe pn hz hf pins s I⟩)) ?_
      intro pn xe tk own
      refine main (X' := X.tr pn xe) { C with tk := tk, own := own, hotq := fun z => by rw [hc] at z; cases z } sq fun k e1 S1 e hk g' H' σ' R' gr' eo' h3 => ?_
      rw [C.K]
      refine ⟨subX k (some c), by rw [← C.K]; exact C.xfa.sub k c hk hcx, fun hs a ha oe pn hz hf => ?_, fun hs => ?_⟩
      · rw [if_pos hs] at h3
        exact suite_run (o := none) ihs C sq hc m6 R' eo' h3 hz hf hk
      · rw [if_neg (by rw [hs]; decide)] at h3
        exact h3 g' H' σ' R' Gr.refl eo'
  | some i =>
    cases nm with
    | none => cases m4
    | some en =>
      simp only [Bool.and_eq_true, decide_eq_true_eq] at m4
      refine uSt_of (ps_try_as (tb := fun W' D σ H => ∀ pn xe, Takes (X.tr pn xe) W' → PassesOwn (model X.prog X.w) X.A X.env xe → uSts (X.tr pn xe) body D σ H)
        (ts := fun a cls d D σ H => ∀ oe pn, Zc cls d oe → (∃ vs, oe.data = .fields vs) → uSts (X.suite a ((a, oe) :: pn)) (x0 :: xs) D σ H) (Wout := wx) sq.1 sq.2 (by rw [C.N]; exact C.nd) (by rw [C.N]; exact m4.1) (by
          show X.env.scope.names.lookup en = some .local
          rw [C.sc]; exact of_decide_eq_true m4.2) nms C.tk (fun W' pn xe tk own => ⟨fun pins s σ H D I h => h pn xe tk own pins s I⟩) (fun a oe cls d pn hz hf => ⟨fun pins s σ H D I h => h oe pn hz hf pins s I⟩)) ?_
      intro pn xe tk own
      refine main (X' := X.tr pn xe) { C with tk := tk, own := own, hotq := fun z => by rw [hc] at z; cases z } sq fun k e1 S1 e hk g' H' σ' R' gr' eo' h3 => ?_
      rw [C.K]
      refine ⟨subX k (some c), by rw [← C.K]; exact C.xfa.sub k c hk hcx, fun hs a ha oe pn hz hf => ?_, fun hs => ?_⟩
      · rw [if_pos hs] at h3
        exact suite_run (o := some i) ihs C sq hc m6 R' eo' h3 hz hf hk
      · rw [if_neg (by rw [hs]; decide)] at h3
        exact h3 g' H' σ' R' Gr.refl eo'
def unlO (S1 : Sto) (bo : Option Nat) (s : Sto) : Sto := match bo with
  | none => s
  | some n => lockB s n (lockOf S1 n)
theorem unlS {bo : Option Nat} (lk : LockOk S bo) (R : Rg W g' S' H') (h : Gr T0 g (lockO S bo) H g' S' H') : Rg W g' (unlO S bo S') H' ∧ Gr T0 g S H g' (unlO S bo S') H' ∧ (∀ a, Own g' (unlO S bo S') a → Own g' S' a) ∧ (∀ a, OwnU g (lockO S bo) a → OwnU g S a) ∧
    ∀ a v f, RK W g' S' H' a v f → RK W g' (unlO S bo S') H' a v f := by
  cases bo with
  | none => exact ⟨R, h, fun _ z => z, fun _ z => z, fun _ _ _ z => z⟩
  | some n =>
    obtain ⟨b, lv⟩ := lk
    obtain ⟨k1, k2⟩ := Gr.unlock lv h
    refine ⟨R.lock (n := n) k2 (lockOf S n), k1, fun a ⟨m, c, h1, h2⟩ => ?_, fun a z => (ownU_lock lv z).1, fun a v f rk => ?_⟩
    · rcases (lockB_live k2).mp h1 with ⟨q1, q2⟩ | ⟨q1, q2⟩
      · exact ⟨n, _, k2, by rw [← q1]; exact h2⟩
      · exact ⟨m, c, q2, h2⟩
    · obtain ⟨k, d⟩ := a
      cases k with
      | vl l => exact rk
      | fr j l => exact rk
      | tn m p =>
        obtain ⟨z1, c, a, k', z2, z3, z4⟩ := rk
        by_cases q : m = n
        · subst q
          have := z2.fun k2
          subst this
          exact ⟨z1, _, a, k', (lockB_live k2).mpr (.inl ⟨rfl, rfl⟩), z3, z4⟩
        · exact ⟨z1, c, a, k', (lockB_live k2).mpr (.inr ⟨q, z2⟩), z3, z4⟩
theorem mapS_for {α : Type} {bo : Option Nat} {S1 : Sto} {r : Sto → SO} : (match bo with
    | none => r S1
    | some n => (r (lockB S1 n true)).mapS fun s => lockB s n (lockOf S1 n)) = (r (lockO S1 bo)).mapS (unlO S1 bo) := by
  cases bo with
  | none =>
    show r S1 = (r S1).mapS fun s => s
    cases r S1 <;> rfl
  | some n => rfl
theorem for_split {bo : Option Nat} {S1 : Sto} {r : Sto → SO} (h : SoP W wx g S H (match bo with
    | none => r S1
    | some n => (r (lockB S1 n true)).mapS fun s => lockB s n (lockOf S1 n)) D) : SoP W wx g S H ((r (lockO S1 bo)).mapS (unlO S1 bo)) D := by
  rw [← mapS_for (α := Nat)]; exact h
theorem case_for {tg : List Nat} {tp : Bool} {it : It} {b : List St} (ih : StsS W t P F n b) : StS W t P F n (.for' tg tp it b) := fun {X l wx} C sq {x} hm {env S g H σ D} R eo h => by
  cases x <;> first
    | (cases hm; done)
    | skip
  rename_i tgx itx body orelse pos
  cases orelse <;> first
    | (cases hm; done)
    | skip
  have hm' : (!l.hot && mTg l tg tp tgx && enuOk it tp && mIt t P l it itx && mSs t P l b body) = true := hm
  simp only [Bool.and_eq_true] at hm'
  obtain ⟨⟨⟨⟨m0, m1⟩, m2⟩, m3⟩, m4⟩ := hm'
  have hc : l.hot = false := by simpa using m0
  refine uSt_of (ps_for C.own (C.calm hc) pi_u (tg_pg C hc m1) pss_u (by
      have := mIt_plain m3
      intro x
      cases itx <;> first
        | rfl
        | cases this)) ?_
  have h' := h
  rw [ex1] at h'
  refine it_ok it C m3 (fun z => ?_) R eo ?_
  · cases it <;> first
      | (cases z; done)
      | (have : tp = true := m2
         subst this
         exact mTg_tup m1)
  cases e1 : evIt (gamW W P n) it env S with
  | stuck => rw [e1] at h'; exact h'.elim
  | exc c S1 => rw [e1] at h'; exact fun g' H' R gr => h' g' H' σ R gr (eo.mono gr)
  | ok r1 =>
    obtain ⟨items, bo, S1, m⟩ := r1
    rw [e1] at h'
    generalize hf : (fun (x : Bool × Z.D) (e : EnvD) (s : Sto) => oso (bindT e tg tp x) fun e' => exs (gamW W P n) b e' s) = ff
    have h2 : SoP W wx g S H ((forGo items ff env (lockO S1 bo)).mapS (unlO S1 bo)) D := by
      rw [← hf]
      exact for_split (r := fun s => forGo items (fun (x : Bool × Z.D) (e : EnvD) (s : Sto) => oso (bindT e tg tp x) fun e' => exs (gamW W P n) b e' s) env s) h'
    intro g1 H1 J R1 gr1 hm1 lk ⟨G, Y, wk, hG, hY⟩
    have h3 := h2.from gr1
    refine for_it wk (fun i σ2 H2 => ∃ g2 S2 env2, Rg W g2 S2 H2 ∧ Gr T0 g1 (lockO S1 bo) H1 g2 S2 H2 ∧ EnvOk W g2 σ2 env2 ∧ SoP W wx g1 S1 H1 ((forGo (items.drop i) ff env2 S2).mapS (unlO S1 bo)) D) ?_ ?_ ?_ ?_
    · exact ⟨g1, lockO S1 bo, env, lockO_rg lk R1, Gr.refl, eo.mono gr1, h3⟩
    · rintro i σ2 H2 _ ⟨g2, S2, env2, R2, gr2, _⟩
      exact hG g2 S2 H2 R2 gr2
    · rintro i xv σ2 H2 H3 hi ⟨g2, S2, env2, R2, gr2, eo2, so⟩ y
      obtain ⟨ld, e5⟩ : ∃ ld, items[i]? = some ld := ⟨items[i], List.getElem?_eq_getElem hi⟩
      obtain ⟨lb, d⟩ := ld
      obtain ⟨g3, R3, gr3, ex3, rv3⟩ := hY i lb d H2 xv H3 e5 y g2 _ R2 gr2
      have e6 : items.drop i = (lb, d) :: items.drop (i + 1) := by
        rw [List.drop_eq_getElem_cons hi]
        rw [List.getElem?_eq_getElem hi] at e5
        rw [Option.some.inj e5]
      rw [e6] at so
      have so2 : SoP W wx g1 S1 H1 ((match ff (lb, d) env2 S2 with
        | .nx e s => forGo (items.drop (i + 1)) ff e s
        | .ct e s => forGo (items.drop (i + 1)) ff e s
        | o => o).mapS (unlO S1 bo)) D := so
      have e7 : ff (lb, d) env2 S2 = oso (bindT env2 tg tp (lb, d)) fun e' => exs (gamW W P n) b e' S2 := by rw [← hf]
      rw [e7] at so2
      cases e8 : bindT env2 tg tp (lb, d) with
      | none => rw [e8] at so2; exact so2.elim
      | some env3 =>
      rw [e8] at so2
      have so3 : SoP W wx g1 S1 H1 ((match exs (gamW W P n) b env3 S2 with
        | .nx e s => forGo (items.drop (i + 1)) ff e s
        | .ct e s => forGo (items.drop (i + 1)) ff e s
        | o => o).mapS (unlO S1 bo)) D := so2
      have gr13 := gr2.trans0 gr3
      refine tg_run (ex := fun _ => False) R3 rv3 e8 (eo2.mono gr3).toX fun σ3 w1 w2 ev3 => ?_
      refine ih C sq m4 R3 (ev3.ok fun j z => z.1) ?_
      cases e9 : exs (gamW W P n) b env3 S2 with
      | nx e' s' => rw [e9] at so3; exact fun g' H' σ' R' gr' eo' => ⟨g', s', e', R', gr13.trans0 gr', eo', so3⟩
      | ct e' s' => rw [e9] at so3; exact fun g' H' σ' R' gr' eo' => ⟨g', s', e', R', gr13.trans0 gr', eo', so3⟩
      | ret k d s' =>
        rw [e9] at so3
        intro g' H' v fp R' gr' rk fr
        obtain ⟨z1, z2, z3, z4, z5⟩ := unlS lk R' (gr13.trans0 gr')
        exact so3 g' H' v fp z1 z2 (z5 _ _ _ rk) ⟨fr.nd, fun a ha => ⟨(fr.fr a ha).1, fun z => (fr.fr a ha).2.1 (z3 a z), (new_back gr13 (fr.fr a ha).2.2).imp id (z4 a)⟩⟩
      | exc c e' s' =>
        rw [e9] at so3
        intro g' H' σ' R' gr' eo'
        obtain ⟨z1, z2, _⟩ := unlS lk R' (gr13.trans0 gr')
        exact so3 g' H' σ' z1 z2 eo'
      | stuck => rw [e9] at so3; exact so3.elim
    · rintro σ2 H2 ⟨g2, S2, env2, R2, gr2, eo2, so⟩
      rw [List.drop_length] at so
      obtain ⟨z1, z2, _⟩ := unlS lk R2 gr2
      exact so g2 H2 σ2 z1 z2 eo2
theorem case_whl {c : Cd} {b : List St} (ih : StsS W t P F n b) : StS W t P F n (.whl c b) := fun {X l wx} C sq {x} hm {env S g H σ D} R eo h => by
  cases x <;> first
    | (cases hm; done)
    | skip
  rename_i cx body orelse pos
  cases orelse <;> first
    | (cases hm; done)
    | skip
  have hm' : (!l.hot && mC t P l c cx && mSs t P l b body) = true := hm
  simp only [Bool.and_eq_true] at hm'
  obtain ⟨⟨m0, m1⟩, m2⟩ := hm'
  refine uSt_of (ps_while C.own pt_u pss_u) ?_
  generalize hf : (fun (e : EnvD) (s : Sto) => match tst (gamW W P n) c e s with
    | .ok (t, s1, m) => if m then some SO.stuck else if t then some (exs (gamW W P n) b e s) else none
    | .exc c s1 => some (SO.exc c e s1)
    | .stuck => some SO.stuck) = ff
  have h' : SoP W wx g S H (whGo ff whMost env S) D := by rw [← hf]; rw [ex1] at h; exact h
  refine ⟨fun m σ2 H2 => ∃ g2 S2 env2, Rg W g2 S2 H2 ∧ Gr T0 g S H g2 S2 H2 ∧ EnvOk W g2 σ2 env2 ∧ SoP W wx g S H (whGo ff m env2 S2) D, ⟨whMost, g, S, env, R, Gr.refl, eo, h'⟩, ?_⟩
  rintro m σ2 H2 ⟨g2, S2, env2, R2, gr2, eo2, so⟩
  cases m with
  | zero => exact so.elim
  | succ m =>
    have so2 : SoP W wx g S H (match ff env2 S2 with
      | none => .nx env2 S2
      | some (.nx e s) => whGo ff m e s
      | some (.ct e s) => whGo ff m e s
      | some o => o) D := so
    have e7 : ff env2 S2 = (match tst (gamW W P n) c env2 S2 with
      | .ok (t, s1, m) => if m then some SO.stuck else if t then some (exs (gamW W P n) b env2 S2) else none
      | .exc c s1 => some (SO.exc c env2 s1)
      | .stuck => some SO.stuck) := by rw [← hf]
    rw [e7] at so2
    refine cd_ok c C m1 R2 eo2 ?_
    cases e1 : tst (gamW W P n) c env2 S2 with
    | stuck => rw [e1] at so2; exact so2.elim
    | exc c S3 => rw [e1] at so2; exact fun g' H' R gr => so2 g' H' σ2 R (gr2.trans0 gr) (eo2.mono gr)
    | ok r =>
      obtain ⟨q, S3, mm⟩ := r
      rw [e1] at so2
      cases mm with
      | true => exact so2.elim
      | false =>
      intro g3 H3 R3 gr3 hm3
      obtain ⟨rfl, ex3⟩ := hm3 rfl
      cases q with
      | false => exact so2 g3 H3 σ2 R3 (gr2.trans0 gr3) (eo2.mono gr3)
      | true =>
        have so3 : SoP W wx g S H (match some (exs (gamW W P n) b env2 S3) with
          | none => .nx env2 S3
          | some (.nx e s) => whGo ff m e s
          | some (.ct e s) => whGo ff m e s
          | some o => o) D := so2
        rw [if_pos rfl]
        refine ⟨fun σ' H' => ∃ g2 S2 env2, Rg W g2 S2 H' ∧ Gr T0 g S H g2 S2 H' ∧ EnvOk W g2 σ' env2 ∧ SoP W wx g S H (whGo ff m env2 S2) D, fun σ' H' z => ⟨m, Nat.lt_succ_self m, z⟩, ?_⟩
        have gr13 := gr2.trans0 gr3
        refine ih C sq m2 R3 (eo2.mono gr3) ?_
        cases e9 : exs (gamW W P n) b env2 S3 with
        | nx e' s' => rw [e9] at so3; exact fun g' H' σ' R' gr' eo' => ⟨g', s', e', R', gr13.trans0 gr', eo', so3⟩
        | ct e' s' => rw [e9] at so3; exact fun g' H' σ' R' gr' eo' => ⟨g', s', e', R', gr13.trans0 gr', eo', so3⟩
        | ret k d s' => rw [e9] at so3; exact RetOk.from gr13 so3
        | exc c e' s' => rw [e9] at so3; exact SoP.from (r := .exc c e' s') gr13 so3
        | stuck => rw [e9] at so3; exact so3.elim
theorem sts_nil : StsS W t P F n [] := fun {X l wx} C sq {xs} hm {env S g H σ D} R eo h => by
  cases xs with
  | cons _ _ => cases hm
  | nil => exact uSts_of pss_nil (h g H σ R Gr.refl eo)
theorem sts_cons {s : St} {ss : List St} (q : isFz s = false) (ihs : StS W t P F n s) (ih : StsS W t P F n ss) : StsS W t P F n (s :: ss) := fun {X l wx} C sq {xs} hm {env S g H σ D} R eo h => by
  have hm' : (if isFz s = true then mSs t P l ss xs else (match (generalizing := false) xs with
    | x :: xs => mS t P l s x && mSs t P l ss xs
    | [] => false)) = true := hm
  rw [if_neg (by rw [q]; decide)] at hm'
  cases xs with
  | nil => cases hm'
  | cons x xs =>
    obtain ⟨m1, m2⟩ := Bool.and_eq_true_iff.mp (show (mS t P l s x && mSs t P l ss xs) = true from hm')
    refine uSts_of (pss_cons ps_u pss_u) (ihs C sq m1 R eo ?_)
    have h' : SoP W wx g S H (match ex1 (gamW W P n) s env S with
      | .nx e S1 => exs (gamW W P n) ss e S1
      | o => o) D := h
    cases e : ex1 (gamW W P n) s env S with
    | nx e' s' => rw [e] at h'; exact fun g' H' σ' R' gr' eo' => ih C sq m2 R' eo' (SoP.from gr' h')
    | ct e' s' => rw [e] at h'; exact h'
    | ret k d s' => rw [e] at h'; exact h'
    | exc c e' s' => rw [e] at h'; exact h'
    | stuck => rw [e] at h'; exact h'.elim
theorem sts_fz {i : Nat} {ss : List St} (ih : StsS W t P F n ss) : StsS W t P F n (.fz i :: ss) := fun {X l wx} C sq {xs} hm {env S g H σ D} R eo h => by
  have h' : SoP W wx g S H (match (match env[i]? with
    | some (some (_, .bx n)) => (match S[n]? with
      | some (some b) => if b.lk then SO.stuck else .nx (env.set i (some (b.ln, b.d))) (S.set n none)
      | _ => .stuck)
    | _ => .nx env S) with
      | .nx e S1 => exs (gamW W P n) ss e S1
      | o => o) D := h
  have hm' : mSs t P l ss xs = true := hm
  have triv : SoP W wx g S H (exs (gamW W P n) ss env S) D → uSts X xs D σ H := fun z => ih C sq hm' R eo z
  cases e : env[i]? with
  | none => rw [e] at h'; exact triv h'
  | some o =>
    cases o with
    | none => rw [e] at h'; exact triv h'
    | some ld =>
      obtain ⟨lb, d⟩ := ld
      rw [e] at h'
      cases d <;> first
        | exact triv h'
        | skip
      rename_i m
      obtain ⟨v, hv, rv⟩ := eo.2 i lb _ e
      obtain ⟨a, r1, rfl⟩ := rv
      cases e2 : S[m]? with
      | none => simp only [e2] at h'; exact h'.elim
      | some o => cases o with
        | none => simp only [e2] at h'; exact h'.elim
        | some b =>
          simp only [e2] at h'
          by_cases q : b.lk = true
          · rw [if_pos q] at h'; exact h'.elim
          · rw [if_neg q] at h'
            have lv : Live S m b := e2
            obtain ⟨R', gr, cl⟩ := R.boxOut lv (by simpa using q)
            obtain ⟨a', e3, rt⟩ := R.box m b lv
            rw [r1] at e3; cases e3
            obtain ⟨g2, f', s, R2, gr2, h2, _⟩ := R'.wk (j := 0) (m := b.ln) rt (R.nd m b lv) (fun z hz => ⟨(cl z hz).1, (cl z hz).2.1⟩) (Nat.zero_le _) (by cases b.ln <;> rfl)
            have grA : Gr T0 g S H g2 (S.set m none) H := (gr.trans gr2).imp fun z w => by
              rcases w with w | w
              · exact w.elim
              · exact .inr (.inl (cl z w).2.2)
            have eo2 : EnvOk W g2 σ (env.set i (some (b.ln, b.d))) := by
              have := ((eo.mono grA).toX (ex := fun _ => False)).set (Rt.freeze0 h2).2 i
              have e4 : σ.set i (some (.ref a)) = σ := by
                obtain ⟨hl, e5⟩ := List.getElem?_eq_some_iff.mp hv
                rw [← e5]; exact List.set_getElem_self hl
              rw [e4] at this
              exact this.ok fun _ z => z.1
            exact ih C sq hm' R2 eo2 (SoP.from grA h')
mutual
theorem st_ok : ∀ (W : Wr) (s : St), isFz s = false → StS W t P F n s
  | _, .asg i b e, _ => case_asg
  | _, .unp is e, _ => case_unp
  | _, .sub o i e, _ => case_sub
  | _, .fld o f e, _ => case_fld
  | _, .ex e, _ => case_ex
  | W, .ite c a b, _ => case_ite (sts_ok W a) (sts_ok W b)
  | W, .for' tg tp it b, _ => case_for (sts_ok W b)
  | W, .whl c b, _ => case_whl (sts_ok W b)
  | _, .ret e, _ => case_ret
  | _, .retN, _ => case_retN
  | _, .raise c, _ => case_raise
  | W, .tr0 b, _ => case_tr0 (sts_ok W b)
  | W, .tr b c o s, _ => case_tr (sts_ok W b) fun x => sts_ok (W.at_ x) s
  | _, .pass, _ => case_pass
  | _, .cont, _ => case_cont
  | _, .fz i, h => by cases h
theorem sts_ok : ∀ (W : Wr) (ss : List St), StsS W t P F n ss
  | _, [] => sts_nil
  | W, s :: ss => if q : isFz s = true then (by
      cases s <;> first
        | (cases q; done)
        | exact sts_fz (sts_ok W ss)) else sts_cons (by simpa using q) (st_ok W s (by simpa using q)) (sts_ok W ss)
end
end
end Z

namespace Z
open PySem L2 PySem.Spec PyProof.Rows
/-- what a def called from an except suite may call: nothing -/
def Pg.own (P : Pg) (hot : Bool) : Pg := if hot then ⟨[], [], P.nx⟩ else P
structure FnF (W : Wr) (t : Tb) (P : Pg) (F : Fns) (f : Nat) (fi : FnI) : Prop where
  ex : ∃ (name qual : Str) (params : Arguments) (body : List Stmt) (scope : Scope) (dV kV doc pm cdv ct oc : Value) (an od : Option Addr) (osl : Array (Option Value)) (N : List Str),
    F.fd f = PySem.W.fnOf name qual params body scope dV kV doc pm an cdv ct ∧ W.K.lookup (F.fa f) = some ⟨oc, od, .func (F.fd f), osl⟩ ∧ PySem.W.codeIn W.K cdv qual = true ∧ FnScope N (F.ps f) scope ∧ N.length = fi.nl ∧ (F.ps f).length = fi.np ∧
      mSs t (P.own fi.hot) ⟨N, scope, fun _ => true, fi.hot⟩ fi.body body = true
/-- what is so of a program once its head has run -/
structure Wd (W : Wr) (t : Tb) (P : Pg) (F : Fns) (mg : Str → Option Value) : Prop where
  xs : W.xs = none
  xfa : XFa W.K W t P.nx
  hot : ∀ (f : Nat) (fi : FnI), P.fns[f]? = some fi → fi.hot = true → fi.np = 1
  free : ∀ x ∈ t.free, mg x = none
  con : ∀ x d, (x, d) ∈ t.con → ∃ v u, mg x = some u ∧ RelV v u ∧ ∀ (ρ : Rho) (G : Hp), Rv W ρ G d v
  fl : ∀ c f, f ∈ t.flds → Cls W.K (W.cl c) ∧ NoAttr W.K (W.cl c) f
  exc : ∀ c y, t.exc[c]? = some y → mg y = some (.ref (W.xc c)) ∧ PySem.W.keepIn W.K (.ref (W.xc c)) = true ∧ (∀ (M : Model) (h : Heap), W.K.In h → PySem.W.Looks M h (isSubtype (.ref (W.xc c)) (.type "BaseException")) true ∧ PySem.W.Looks M h (typeOf (.ref (W.xc c))) (.type "type")) ∧
    ∃ (bmB : List Value) (B newId initId : String), ExcBaseFacts B newId initId bmB ∧ PySem.W.excIn W.K (W.xc c) bmB newId = true
  fn : ∀ f fi, P.fns[f]? = some fi → FnF W t P F f fi
  mgf : ∀ f y, t.fns[f]? = some y → mg y = some (.ref (F.fa f)) ∧ PySem.W.keepIn W.K (.ref (F.fa f)) = true
  bnd : ∀ f fi, P.fns[f]? = some fi → ∀ j, j ≤ fi.dfl.length → ∃ ds dvs, Binds W.K (F.fd f) (F.ps f) ds ∧ Vals dvs ds ∧ ∀ ρ G, RvL W ρ G (fi.dfl.drop (fi.dfl.length - j)) dvs
  mth : ∀ c ci m f, P.cls[c]? = some ci → ci.meths.lookup m = some f → Meth W.K (W.cl c) m (F.fa f) ∧ ∃ fi, P.fns[f]? = some fi
  cls : ∀ c ci, P.cls[c]? = some ci → Cls W.K (W.cl c)
  mkc : ∀ c y, t.cls[c]? = some y → mg y = some (.ref (W.cl c)) ∧ ∀ ci f, P.cls[c]? = some ci → ci.meths.lookup ("__init__" : Str) = some f → Mk W.K (W.cl c) (F.fa f)
section
variable {W : Wr} {t : Tb} {P : Pg} {F : Fns} {mg : Str → Option Value} {p : Program} {w : World} {base : Heap} {g : Gh} {S : Sto} {H : Hp}
theorem env_start {N : List Str} {nl np : Nat} {as : List (Bool × D)} {vs : List V} (hx : XsOk W g) (h : ArgsR W g as vs) (hN : N.length = nl) (hp : as.length = np) : EnvOk W g (L2.start N vs) (as.map some ++ List.replicate (nl - np) none) := by
  have hl := h.length
  have key : ∀ {as : List (Bool × D)} {vs : List V}, ArgsR W g as vs → ∀ (i : Nat) (l : Bool) (d : D), as[i]? = some (l, d) → ∃ v, vs[i]? = some v ∧ Rv W g.r (g.G l) d v := fun {as} => by
    induction as with
    | nil => intro vs h i l d e; simp at e
    | cons a as ih =>
      intro vs h i l d e
      obtain ⟨l0, d0⟩ := a
      obtain ⟨v, ws, rfl, h2, h3⟩ := h
      cases i with
      | zero => cases e; exact ⟨v, rfl, h2⟩
      | succ i => exact ih h3 i l d e
  refine ⟨⟨?_, hx⟩, fun i l d e => ?_⟩
  · unfold L2.start
    simp only [List.length_append, List.length_map, List.length_replicate]
    omega
  · have hi : i < as.length := by
      by_cases hi : i < as.length
      · exact hi
      · rw [List.getElem?_append_right (by simpa using hi), List.getElem?_replicate] at e
        split at e <;> cases e
    rw [List.getElem?_append_left (by simpa using hi), List.getElem?_map] at e
    obtain ⟨a, e1, e2⟩ := Option.map_eq_some_iff.mp e
    cases e2
    obtain ⟨v, h1, h2⟩ := key h i l d e1
    refine ⟨v, ?_, h2⟩
    unfold L2.start
    rw [List.getElem?_append_left (by rw [List.length_map]; omega), List.getElem?_map, h1]
    rfl
theorem run_eq {n f : Nat} {fi : FnI} (hf : P.fns[f]? = some fi) (hh : fi.hot = false) {as : List (Bool × D)} {S : Sto} (h : as.length = fi.np) : run P (n + 1) f as S = match (generalizing := false) exs (gam P n) fi.body (as.map some ++ List.replicate (fi.nl - fi.np) none) S with
    | .nx _ S' => .ok (.vl false, .non, S')
    | .ret k d S' => .ok (k, d, S')
    | .exc c _ S' => .exc c S'
    | _ => .stuck := by
  have e : as ++ (fi.dfl.drop (fi.dfl.length - (fi.np - as.length))).map (fun d => ((false, d) : Bool × D)) = as := by
    rw [h, Nat.sub_self, Nat.sub_zero, List.drop_length]; simp
  unfold run
  simp only [hf]
  rw [hh, if_neg (by decide), e, if_pos h]
  try rfl
theorem gam_w (h : W.xs = none) {n : Nat} : gamW W P n = gam P n := by
  unfold gamW
  rw [h]
  rfl
theorem FnF.len {f : Nat} {fi : FnI} (h : FnF W t P F f fi) : (F.ps f).length = fi.np := by
  obtain ⟨_, _, _, _, _, _, _, _, _, _, _, _, _, _, _, _, _, _, _, _, _, hps, _⟩ := h.ex
  exact hps
/-- a def called from an except suite with the error -/
theorem fnx_ok (wd : Wd W t P F mg) {f : Nat} {fi : FnI} (hf : P.fns[f]? = some fi) (hh : fi.hot = true) : FnX p w W.K mg base W P.nx (F.fa f) (F.fd f) (F.ps f) (runX P f) := by
  obtain ⟨name, qual, params, body, scope, dV, kV, doc, pm, cdv, ct, oc, an, od, osl, N, efd, lk, hcd, S, hN, hps, hm⟩ := (wd.fn f fi hf).ex
  have h1 := wd.hot f fi hf hh
  rw [efd] at lk ⊢
  rw [hh] at hm
  refine ⟨fun A outer s H args q k Q hr hpin hz hfl hk e0 hb hsp => ?_⟩
  obtain ⟨g, R, r0, hrun⟩ := hsp
  have KX : W.K.In s.heap := e0.mod.kin.keeps fun b o z => (e0.bs b o z).1
  have lim : s.heap.NoLimit := e0.mod.nolimit.keeps fun b o z => (e0.bs b o z).1
  have kinds : ∀ y ∈ (F.ps f).zip [Value.ref q.1], scope.names.lookup y.1 = some .local ∨ (scope.names.lookup y.1 = some .cell ∧ ((cellsFrom (s.heap.objs.size + 1) scope.names []).lookup y.1).isSome = true) := fun ⟨y, v⟩ hy => by
    rcases S.par y (List.of_mem_zip hy).1 with z | z
    · exact .inl z
    · exact .inr ⟨z, PySem.W.cellsFrom_some _ _ _ (.inl z)⟩
  refine codeAny_call_function hr.depth (KX _ _ lk) rfl S.co S.gen rfl (PySem.W.codeRec_of KX hcd) (hb _ _ _ _ (wpAny_newFunctionEnv_cells S.kind kinds fun env he s1 x => ?_))
  subst he
  refine ⟨lim.keeps x.toInCall.keep, codeAny_func ?_⟩
  have I := L2H.inv_startH (CX := L2.CX p w) (E := fun _ _ _ => False) (p := q) (us := [Value.ref q.1]) (vs := [V.ref q.1]) S hpin e0 (by rw [hps, h1]; rfl) (.cons rfl .nil) x
  have hd := hr.deeper (envOfC qual scope s.heap.objs.size (F.fa f) cdv)
  have C : Cf (L2H.cxH (L2.CX p w) p w W.K mg base N qual scope (F.fa f) cdv A outer s H (fun _ _ _ => False) q) (W.at_ (some (0, q.1, k))) t ⟨[], [], P.nx⟩ F 0 ⟨N, scope, fun _ => true, true⟩ (fun _ _ _ _ => False) :=
    { K := rfl, N := rfl, nd := S.nd, sc := rfl, calm := fun z => Bool.noConfusion z, un := by have := hd.un; show (A.deeper _).units + 64 < _; omega
      free := wd.free
      con := fun x d h => by
        obtain ⟨v, u, h1, h2, h3⟩ := wd.con x d h
        exact ⟨v, u, h1, h2, fun ρ G => by rw [rv_xs]; exact h3 ρ G⟩
      fl := wd.fl, room := fun z => Bool.noConfusion z, tk := takes0, own := passes_of rfl, exc := wd.exc, fnx := rfl
      ok := fun z => Bool.noConfusion z
      psl := fun f fi hf => by cases hf
      mgf := wd.mgf
      bnd := fun f fi hf => by cases hf
      mth := fun c ci m f hc => by cases hc
      cls := fun c ci hc => by cases hc
      hotq := fun _ => ⟨⟨0, q.1, k, q.2, rfl, List.mem_cons_self, hz, hfl, hk⟩, fun z => absurd rfl z⟩
      xfa := ⟨wd.xfa.len, wd.xfa.cl, wd.xfa.sub, wd.xfa.val⟩
      xfn := fun f fi hf => by cases hf
      mkc := fun c y h => ⟨(wd.mkc c y h).1, fun ci f hc => by cases hc⟩ }
  have eo : EnvOk (W.at_ (some (0, q.1, k))) g (L2.start N [V.ref q.1]) (some (true, .bx 0) :: List.replicate (fi.nl - 1) none) := by
    refine ⟨⟨?_, fun m a k' z => by cases z; exact r0⟩, fun i l d e => ?_⟩
    · unfold L2.start
      have : (F.ps f).length ≤ N.length := by have := congrArg List.length S.pre; rw [List.length_take] at this; omega
      simp only [List.length_append, List.length_map, List.length_replicate, List.length_cons, List.length_nil]
      omega
    · cases i with
      | zero => cases e; exact ⟨_, rfl, q.1, r0, rfl⟩
      | succ i =>
        have e' : (List.replicate (fi.nl - 1) (none : Option (Bool × Z.D)))[i]? = some (some (l, d)) := e
        rw [List.getElem?_replicate] at e'
        split at e' <;> cases e'
  have er : runX P f k = (match (generalizing := false) exs (gamW (W.at_ (some (0, q.1, k))) ⟨[], [], P.nx⟩ 0) fi.body (some (true, .bx 0) :: List.replicate (fi.nl - 1) none) [none] with
    | .nx _ S' => .ok (.vl false, .non, S')
    | .ret k d S' => .ok (k, d, S')
    | .exc c _ S' => .exc c S'
    | _ => .stuck) := by
    have eg : gamW (W.at_ (some (0, q.1, k))) ⟨[], [], P.nx⟩ 0 = ⟨fun _ _ _ => .stuck, [], some (0, k), fun _ _ => .stuck, P.nx⟩ := by
      unfold gamW
      congr 1
    rw [eg]
    unfold runX
    simp only [hf]
    rw [if_pos h1]
    try rfl
  rw [er] at hrun
  have key := sts_ok (n := 0) (F := F) (W.at_ (some (0, q.1, k))) fi.body C ⟨rfl, rfl⟩ hm (D := { nx := fun _ H' => Q .non H', rt := Q }) (rg_xs.mpr (rg_xs.mp R)) eo (by
    cases e : exs (gamW (W.at_ (some (0, q.1, k))) ⟨[], [], P.nx⟩ 0) fi.body (some (true, .bx 0) :: List.replicate (fi.nl - 1) none) [none] with
    | nx e' s' => rw [e] at hrun; exact fun g' H' σ' R' gr eo => hrun g' H' .non [] (rg_xs.mpr (rg_xs.mp R')) gr ⟨rfl, rfl⟩ Fre.nil
    | ct e' s' => rw [e] at hrun; exact hrun.elim
    | ret k d s' => rw [e] at hrun; exact fun g' H' v fp R' gr rk fr => hrun g' H' v fp (rg_xs.mpr (rg_xs.mp R')) gr (rk_xs.mpr (rk_xs.mp rk)) fr
    | exc c e' s' => rw [e] at hrun; exact hrun.elim
    | stuck => rw [e] at hrun; exact hrun.elim)
  refine wpAny_mono (key [] s1 I) (fun fl s' hs => ?_) fun e s' hs => hs
  cases fl with
  | ret u => obtain ⟨v, σ', H', J, rv, q⟩ := hs; exact ⟨v, H', J.os, J.bare, J.base, J.hok, rv, q⟩
  | next => obtain ⟨σ', H', J, q⟩ := hs; exact ⟨.non, H', J.os, J.bare, J.base, J.hok, rfl, q⟩
  | brk => obtain ⟨_, _, _, q⟩ := hs; exact False.elim q
  | cont => obtain ⟨_, _, _, q⟩ := hs; exact False.elim q
theorem fn_ok (wd : Wd W t P F mg) : ∀ (n f : Nat) (fi : FnI), P.fns[f]? = some fi → FnOk p w W.K mg base (L2.CX p w) (2 * n) (F.fa f) (F.fd f) (F.ps f) (spZ W (run P n f) fi.np)
  | 0, f, fi, hf => ⟨fun vs H Q E h => by rw [(wd.fn f fi hf).len]; exact h.1, fun _ _ _ _ _ _ _ _ _ _ _ _ _ h => by
      obtain ⟨_, _, _, _, _, _, h⟩ := h
      exact h.elim⟩
  | n + 1, f, fi, hf => by
    by_cases hh : fi.hot = true
    · exact ⟨fun vs H Q E h => by rw [(wd.fn f fi hf).len]; exact h.1, fun _ _ _ _ _ _ _ _ _ _ _ _ _ h => by
        obtain ⟨_, _, _, _, _, _, h⟩ := h
        unfold run at h
        simp only [hf] at h
        rw [hh, if_pos rfl] at h
        exact h.elim⟩
    have hc : fi.hot = false := by simpa using hh
    obtain ⟨name, qual, params, body, scope, dV, kV, doc, pm, cdv, ct, oc, an, od, osl, N, efd, lk, hcd, S, hN, hps, hm⟩ := (wd.fn f fi hf).ex
    have ih := fn_ok wd n
    rw [efd] at lk ⊢
    rw [hc] at hm
    refine fn_of (k := 2 * n + 1) lk hcd S (fun vs H Q E h => by rw [hps]; exact h.1) fun A outer s H vs Q E hr hsp => ?_
    obtain ⟨hlen, g, S0, as, R, ar, hrun⟩ := hsp
    have C : Cf (cxOf (L2.CX p w) p w W.K mg base N qual scope (F.fa f) cdv A outer s H E) W t P F n ⟨N, scope, fun _ => true, false⟩ (fun cls d _ H => E cls d H) :=
      { K := rfl, N := rfl, nd := S.nd, sc := rfl, calm := fun _ => rfl, un := by have := hr.un; show (A.deeper _).units + 64 < _; omega
        free := wd.free, con := wd.con, fl := wd.fl, room := fun _ => hr, fnx := rfl, tk := takes_of rfl rfl rfl rfl, own := passes_of rfl, exc := wd.exc
        ok := fun _ f fi hf => ih f fi hf, psl := fun f fi hf => (wd.fn f fi hf).len
        mgf := wd.mgf, bnd := wd.bnd, mth := wd.mth, cls := wd.cls, hotq := fun z => Bool.noConfusion z, xfa := wd.xfa
        xfn := fun f fi hf hh => ⟨wd.hot f fi hf hh, fnx_ok wd hf hh⟩, mkc := wd.mkc }
    have hal : as.length = fi.np := by rw [← ar.length]; exact hlen
    rw [run_eq hf hc hal] at hrun
    refine ⟨_, pss_u, sts_ok W fi.body C ⟨rfl, rfl⟩ hm R (env_start (fun m a k z => by rw [wd.xs] at z; cases z) ar hN hal) ?_⟩
    rw [gam_w wd.xs]
    cases e : exs (gam P n) fi.body (as.map some ++ List.replicate (fi.nl - fi.np) none) S0 with
    | nx e' s' => rw [e] at hrun; exact fun g' H' σ' R' gr eo => hrun g' H' .non [] R' gr ⟨rfl, rfl⟩ Fre.nil
    | ct e' s' => rw [e] at hrun; exact hrun.elim
    | ret k d s' => rw [e] at hrun; exact hrun
    | exc c e' s' => rw [e] at hrun; exact fun g' H' σ' R' gr eo => hrun g' H' R' gr
    | stuck => rw [e] at hrun; exact hrun.elim
end
end Z

namespace Z
open PySem L2 PySem.Spec PyProof.Rows
structure Tab where
  t : Tb
  P : Pg
  fa : List He.Fa
  fn : List He.DefD
  Ns : List (List Str)
def Tab.W (T : Tab) (K : PySem.W.Frag) : Wr := ⟨K, fun c => He.ga K (T.t.cls.getD c (T.t.cls.headD "")), fun c => He.ga K (T.t.exc.getD c ""), none⟩
def faEq : He.Fa → He.Fa → Bool
  | .glo x, .glo y => decide (x = y)
  | .free x, .free y => decide (x = y)
  | .int x i, .int y j => decide (x = y) && decide (i = j)
  | .str x i, .str y j => decide (x = y) && decide (i = j)
  | .cls x, .cls y => decide (x = y)
  | .noat x i, .noat y j => decide (x = y) && decide (i = j)
  | .meth x i, .meth y j => decide (x = y) && decide (i = j)
  | .mkr x, .mkr y => decide (x = y)
  | .exc x, .exc y => decide (x = y)
  | _, _ => false
theorem faEq_eq {a b : He.Fa} (h : faEq a b = true) : a = b := by
  cases a <;> cases b <;> first
    | (cases h; done)
    | (have h' := of_decide_eq_true h; rw [h']; done)
    | (obtain ⟨h1, h2⟩ := Bool.and_eq_true_iff.mp h
       rw [of_decide_eq_true h1, of_decide_eq_true h2])
def Tab.has (T : Tab) (f : He.Fa) : Bool := T.fa.any (faEq f)
def scopeB (N ps : List Str) (sc : Scope) : Bool := (match sc.kind with
    | .function => true
    | _ => false) && !sc.isCoroutine && !sc.isGenerator && decide N.Nodup && decide (N.take ps.length = ps) && ps.all (fun x => decide (sc.names.lookup x = some .local) || decide (sc.names.lookup x = some .cell)) && sc.names.all (fun y => decide (y.2 ≠ .free))
theorem scopeB_ok {N ps : List Str} {sc : Scope} (h : scopeB N ps sc = true) : FnScope N ps sc := by
  unfold scopeB at h
  simp only [Bool.and_eq_true, Bool.not_eq_true', decide_eq_true_eq, List.all_eq_true, Bool.or_eq_true] at h
  obtain ⟨⟨⟨⟨⟨⟨h1, h2⟩, h3⟩, h4⟩, h5⟩, h6⟩, h7⟩ := h
  refine ⟨?_, h2, h3, h4, h5, h6, h7⟩
  split at h1
  · assumption
  · cases h1
def okFn (T : Tab) (f : Nat) (fi : FnI) : Bool := match T.fn[f]?, T.Ns[f]? with
  | some d, some N => scopeB N (N.take fi.np) d.scope && decide (N.length = fi.nl) && decide (fi.np ≤ fi.nl) && mSs T.t (T.P.own fi.hot) ⟨N, d.scope, fun _ => true, fi.hot⟩ fi.body d.body
  | _, _ => false
def okFns (T : Tab) : Nat → List FnI → Bool
  | _, [] => true
  | i, fi :: r => okFn T i fi && okFns T (i + 1) r
def okGlo (T : Tab) : Nat → List Str → Bool
  | _, [] => true
  | i, y :: r => (match T.fn[i]? with
    | some d => decide (d.at_ = (y, none))
    | none => false) && T.has (.glo y) && okGlo T (i + 1) r
def okMeth (T : Tab) (c : Str) (p : Str × Nat) : Bool := T.has (.meth c p.1) && (!decide (p.1 = "__init__") || T.has (.mkr c)) && (match T.fn[p.2]? with
  | some d => decide (d.at_ = (c, some p.1))
  | none => false) && decide (p.2 < T.P.fns.length)
def okCls (T : Tab) : Nat → List ClsI → Bool
  | _, [] => true
  | c, ci :: r => decide (T.t.cls[c]? = some ci.name) && T.has (.cls ci.name) && T.has (.glo ci.name) && ci.meths.all (okMeth T ci.name) && okCls T (c + 1) r
def okCon (T : Tab) (p : Str × D) : Bool := match p.2 with
  | .int i => T.has (.int p.1 i)
  | .str z => T.has (.str p.1 z)
  | _ => false
def okTab (T : Tab) : Bool := okFns T 0 T.P.fns && okGlo T 0 T.t.fns && okCls T 0 T.P.cls && decide (T.t.cls.length = T.P.cls.length) && T.t.free.all (fun x => T.has (.free x)) && T.t.con.all (okCon T) &&
  T.t.flds.all (fun f => T.t.cls.all fun x => T.has (.noat x f) && T.has (.cls x)) && (T.t.flds.isEmpty || !T.t.cls.isEmpty) && (T.t.exc.all fun y => T.has (.exc y) && T.has (.glo y)) && decide (T.t.exc.length = T.P.nx) && T.P.fns.all fun fi => !fi.hot || decide (fi.np = 1)
def excB (K : PySem.W.Frag) (D : Addr) : Bool := decide (PySem.W.findIn K (.ref D) "__getattribute__" = some (some (.builtin "BaseException.__getattribute__"))) && decide (PySem.W.findIn K (.ref D) "__getattr__" = some none) &&
  decide (PySem.W.subIn K (.ref D) (.type "BaseException") = some true) && PySem.W.hasDictIn K D && decide (PySem.W.findIn K (.ref D) "__class__" = some (some (.builtin "object.__class__"))) &&
  decide (PySem.W.specialIn K (.builtin "object.__class__") "__get__" = some (some (.builtin "getset_descriptor.__get__"))) && decide (PySem.W.takesIn K (.builtin "object.__class__") = some true) && decide (PySem.W.mroIn K D (.type "object") = some true) &&
  decide (PySem.W.kitOne K (.ref D) (.type "ValueError") = some true)
theorem excB_ok {K : PySem.W.Frag} {D : Addr} (h : excB K D = true) : ExcC K D ∧ PySem.W.kitOne K (.ref D) (.type "ValueError") = some true := by
  unfold excB at h
  simp only [Bool.and_eq_true, decide_eq_true_eq] at h
  obtain ⟨⟨⟨⟨⟨⟨⟨⟨h1, h2⟩, h3⟩, h4⟩, h5⟩, h6⟩, h7⟩, h8⟩, h9⟩ := h
  exact ⟨⟨h1, h2, h3, h4, h5, h6, h7, h8⟩, h9⟩
def xAll (K : PySem.W.Frag) (xs : List Str) : Bool := (xs.all fun x => excB K (He.ga K x)) && (List.range xs.length).all fun i => (List.range xs.length).all fun j =>
  decide (PySem.W.exmOne K (.ref (He.ga K (xs.getD i ""))) (.ref (He.ga K (xs.getD j ""))) = some (subX i (some j)))
abbrev AlX : Type := He.AlD × Bool
def obsX (fa : List He.Fa) (fn : List He.DefD) (xs : List Str) (K : PySem.W.Frag) : AlX := (He.obsD fa fn K, xAll K xs)
def SaysX (fa : List He.Fa) (fn : List He.DefD) (xs : List Str) (K : PySem.W.Frag) : Prop := obsX fa fn xs K = (He.valD fn, true)
def obsXG (n : Nat) (fa : List He.Fa) (fn : List He.DefD) (xs : List Str) (g : Addr → Option Obj) : AlX := obsX fa fn xs (He.frG g (He.asD g n))
def hookX (n : Nat) (fa : List He.Fa) (fn : List He.DefD) (xs : List Str) : PySem.W.Hook where
  α := AlX
  obs := fun s => obsXG n fa fn xs s.heap.get?
  val := fun _ => (He.valD fn, true)
  says := fun _ h => ∃ K : PySem.W.Frag, K.In h ∧ SaysX fa fn xs K
  of := fun _ _ e => ⟨_, He.frG_in, e⟩
  keeps := fun _ _ _ ⟨K, q, c⟩ k => ⟨K, PySem.W.Frag.In.keeps q k, c⟩
theorem obsX_eq {n : Nat} {fa : List He.Fa} {fn : List He.DefD} {xs : List Str} {g : Addr → Option Obj} {s : Shared} (h : ∀ a, g a = s.heap.get? a) : obsXG n fa fn xs g = (hookX n fa fn xs).obs s := by
  have e : g = s.heap.get? := funext h
  subst e
  rfl
theorem SaysX.d {fa : List He.Fa} {fn : List He.DefD} {xs : List Str} {K : PySem.W.Frag} (h : SaysX fa fn xs K) : He.SaysD fa fn K := congrArg Prod.fst (show (He.obsD fa fn K, xAll K xs) = (He.valD fn, true) from h)
theorem SaysX.x {fa : List He.Fa} {fn : List He.DefD} {xs : List Str} {K : PySem.W.Frag} (h : SaysX fa fn xs K) : xAll K xs = true := congrArg Prod.snd (show (He.obsD fa fn K, xAll K xs) = (He.valD fn, true) from h)
theorem okFns_at {T : Tab} : ∀ {i : Nat} {l : List FnI}, okFns T i l = true → ∀ {f : Nat} {fi : FnI}, l[f]? = some fi → okFn T (i + f) fi = true
  | _, [], _, _, _, e => by cases e
  | i, x :: r, h, f, fi, e => by
    obtain ⟨h1, h2⟩ := Bool.and_eq_true_iff.mp (show (okFn T i x && okFns T (i + 1) r) = true from h)
    cases f with
    | zero => cases e; exact h1
    | succ f =>
      have := okFns_at h2 (f := f) e
      rw [show i + (f + 1) = i + 1 + f by omega]; exact this
theorem okGlo_at {T : Tab} : ∀ {i : Nat} {l : List Str}, okGlo T i l = true → ∀ {f : Nat} {y : Str}, l[f]? = some y → (∃ d, T.fn[i + f]? = some d ∧ d.at_ = (y, none)) ∧ T.has (.glo y) = true
  | _, [], _, _, _, e => by cases e
  | i, x :: r, h, f, y, e => by
    have h' : ((match T.fn[i]? with
      | some d => decide (d.at_ = (x, none))
      | none => false) && T.has (.glo x) && okGlo T (i + 1) r) = true := h
    simp only [Bool.and_eq_true] at h'
    obtain ⟨⟨h1, h2⟩, h3⟩ := h'
    cases f with
    | zero =>
      cases e
      cases q : T.fn[i]? with
      | none => rw [q] at h1; cases h1
      | some d => rw [q] at h1; exact ⟨⟨d, by first | exact q | rfl, of_decide_eq_true h1⟩, h2⟩
    | succ f =>
      have := okGlo_at h3 (f := f) e
      rw [show i + (f + 1) = i + 1 + f by omega]; exact this
theorem okCls_at {T : Tab} : ∀ {i : Nat} {l : List ClsI}, okCls T i l = true → ∀ {c : Nat} {ci : ClsI}, l[c]? = some ci → T.t.cls[i + c]? = some ci.name ∧ T.has (.cls ci.name) = true ∧ T.has (.glo ci.name) = true ∧ ∀ p ∈ ci.meths, okMeth T ci.name p = true
  | _, [], _, _, _, e => by cases e
  | i, x :: r, h, c, ci, e => by
    have h' : (decide (T.t.cls[i]? = some x.name) && T.has (.cls x.name) && T.has (.glo x.name) && x.meths.all (okMeth T x.name) && okCls T (i + 1) r) = true := h
    simp only [Bool.and_eq_true, decide_eq_true_eq, List.all_eq_true] at h'
    obtain ⟨⟨⟨⟨h1, h2⟩, h3⟩, h4⟩, h5⟩ := h'
    cases c with
    | zero => cases e; exact ⟨h1, h2, h3, h4⟩
    | succ c =>
      have := okCls_at h5 (c := c) e
      rw [show i + (c + 1) = i + 1 + c by omega]; exact this
section
variable {T : Tab} {K : PySem.W.Frag} {h : Heap} {mg : Str → Option Value}
theorem has_ok {f : He.Fa} (c : He.SaysD T.fa T.fn K) (q : T.has f = true) : f.ok K = true := by
  obtain ⟨x, h1, h2⟩ := List.any_eq_true.mp q
  rw [faEq_eq h2]
  have c1 := (He.ba (show ((T.fa.all fun f => f.ok K) && T.fn.all fun d => d.ok K) = true from congrArg (fun z : He.AlD => z.1) c)).1
  exact List.all_eq_true.mp c1 x h1
def BindsOk (T : Tab) (K : PySem.W.Frag) : Prop := ∀ (f : Nat) (fi : FnI) (d : He.DefD) (N : List Str) (a : Addr) (fd : FuncData), T.P.fns[f]? = some fi → T.fn[f]? = some d → T.Ns[f]? = some N → FunD K d.name d.qual d.params d.body d.scope (d.dvs K) (d.kws K) a fd →
  ∀ j, j ≤ fi.dfl.length → ∃ ds dvs, Binds K fd (N.take fi.np) ds ∧ Vals dvs ds ∧ ∀ ρ G, RvL (T.W K) ρ G (fi.dfl.drop (fi.dfl.length - j)) dvs
def fd0 : FuncData := PySem.W.fnOf "" "" ⟨[], [], none, [], [], none, []⟩ [] ⟨.function, [], false, false, []⟩ .none .none .none .none none .none .none
def Tab.faOf (T : Tab) (K : PySem.W.Frag) (f : Nat) : Addr := match T.fn[f]? with
  | some d => He.fAd K d.at_
  | none => 0
def Tab.psOf (T : Tab) (f : Nat) : List Str := match T.Ns[f]?, T.P.fns[f]? with
  | some N, some fi => N.take fi.np
  | _, _ => []
theorem faOf_eq {f : Nat} {d : He.DefD} (q : T.fn[f]? = some d) : T.faOf K f = He.fAd K d.at_ := by unfold Tab.faOf; rw [q]
theorem psOf_eq {f : Nat} {N : List Str} {fi : FnI} (q1 : T.Ns[f]? = some N) (q2 : T.P.fns[f]? = some fi) : T.psOf f = N.take fi.np := by unfold Tab.psOf; rw [q1, q2]
theorem wd_of (ok : okTab T = true) (hb : BindsOk T K) (X : K.In h) (G : h.Ns mainGlobals mg) (c : He.SaysD T.fa T.fn K) (xa : xAll K T.t.exc = true) :
    ∃ F : Fns, Wd (T.W K) T.t T.P F mg ∧ ∀ (f : Nat) (d : He.DefD) (N : List Str) (fi : FnI), T.fn[f]? = some d → T.Ns[f]? = some N → T.P.fns[f]? = some fi → F.fa f = He.fAd K d.at_ ∧ F.ps f = N.take fi.np ∧ FunD K d.name d.qual d.params d.body d.scope (d.dvs K) (d.kws K) (F.fa f) (F.fd f) := by
  have ok' := ok
  unfold okTab at ok'
  simp only [Bool.and_eq_true, decide_eq_true_eq, List.all_eq_true, Bool.or_eq_true, Bool.not_eq_true'] at ok'
  obtain ⟨⟨⟨⟨⟨⟨⟨⟨⟨⟨k1, k2⟩, k3⟩, k4⟩, k5⟩, k6⟩, k7⟩, k8⟩, k9⟩, k10⟩, k11⟩ := ok'
  have exf : ∀ (f : Nat), ∃ fd : FuncData, ∀ (d : He.DefD), T.fn[f]? = some d → FunD K d.name d.qual d.params d.body d.scope (d.dvs K) (d.kws K) (He.fAd K d.at_) fd := fun f => by
    cases q : T.fn[f]? with
    | none => exact ⟨fd0, fun d z => by cases z⟩
    | some d =>
      obtain ⟨fd, F⟩ := c.def_ f q
      exact ⟨fd, fun d' z => by cases z; exact F⟩
  obtain ⟨fds, hfd⟩ := Classical.axiomOfChoice exf
  let F : Fns := ⟨T.faOf K, fds, T.psOf⟩
  have Fa : ∀ {f : Nat} {d : He.DefD}, T.fn[f]? = some d → F.fa f = He.fAd K d.at_ := fun q => faOf_eq q
  have Fp : ∀ {f : Nat} {N : List Str} {fi : FnI}, T.Ns[f]? = some N → T.P.fns[f]? = some fi → F.ps f = N.take fi.np := fun q1 q2 => psOf_eq q1 q2
  have at_ : ∀ {f : Nat} {fi : FnI}, T.P.fns[f]? = some fi → ∃ d N, T.fn[f]? = some d ∧ T.Ns[f]? = some N ∧ FnScope N (N.take fi.np) d.scope ∧ N.length = fi.nl ∧ fi.np ≤ fi.nl ∧ mSs T.t (T.P.own fi.hot) ⟨N, d.scope, fun _ => true, fi.hot⟩ fi.body d.body = true := fun {f fi} q => by
    have z := okFns_at k1 q
    rw [Nat.zero_add] at z
    unfold okFn at z
    split at z
    · rename_i d N e1 e2
      simp only [Bool.and_eq_true, decide_eq_true_eq] at z
      obtain ⟨⟨⟨z1, z2⟩, z3⟩, z4⟩ := z
      exact ⟨d, N, e1, e2, scopeB_ok z1, z2, z3, z4⟩
    · cases z
  have clN : ∀ {c : Nat} {y : Str}, T.t.cls[c]? = some y → (T.W K).cl c = He.ga K y := fun {c y} q => by
    show He.ga K (T.t.cls.getD c _) = _
    rw [List.getD_eq_getElem?_getD, q]; rfl
  refine ⟨F, ?_, fun f d N fi q1 q2 q3 => ⟨Fa q1, Fp q2 q3, by rw [Fa q1]; exact hfd f d q1⟩⟩
  have xcN : ∀ {c : Nat}, c < T.P.nx → (T.W K).xc c = He.ga K (T.t.exc.getD c "") ∧ T.t.exc.getD c "" ∈ T.t.exc := fun {c} q => by
    refine ⟨rfl, ?_⟩
    have q' : c < T.t.exc.length := by rw [k10]; exact q
    rw [List.getD_eq_getElem?_getD, List.getElem?_eq_getElem q']
    exact List.getElem_mem q'
  have xa' := xa
  unfold xAll at xa'
  simp only [Bool.and_eq_true, List.all_eq_true, List.mem_range, decide_eq_true_eq] at xa'
  obtain ⟨xa1, xa2⟩ := xa'
  refine { xs := rfl, xfa := ⟨k10, fun k hk => (excB_ok (xa1 _ (xcN hk).2)).1, fun j k hj hk => xa2 j (by rw [k10]; exact hj) k (by rw [k10]; exact hk), fun k hk => (excB_ok (xa1 _ (xcN hk).2)).2⟩
           hot := fun f fi hf hh => (k11 fi (List.mem_of_getElem? hf)).resolve_left (by rw [hh]; decide), free := fun x hx => He.free_ok X G (has_ok c (k5 x hx)), con := fun x d hx => ?_, fl := fun cn f hf => ?_, exc := fun cn y hy => ?_, fn := fun f fi hf => ?_, mgf := fun f y hy => ?_, bnd := fun f fi hf j hj => ?_, mth := fun cn ci m f hc hm => ?_, cls := fun cn ci hc => ?_, mkc := fun cn y hy => ?_ }
  · have z := k6 _ hx
    cases d <;> first
      | (cases z; done)
      | skip
    · rename_i i
      obtain ⟨tk, e⟩ := He.int_ok X G (has_ok c z)
      exact ⟨.int i, _, e, ⟨tk, rfl⟩, fun _ _ => rfl⟩
    · rename_i i
      obtain ⟨tk, e⟩ := He.str_ok X G (has_ok c z)
      exact ⟨.str i, _, e, ⟨tk, rfl⟩, fun _ _ => rfl⟩
  · have hne : T.t.cls ≠ [] := by
      rcases k8 with z | z
      · rw [List.isEmpty_iff] at z; rw [z] at hf; cases hf
      · intro e; rw [e] at z; cases z
    have mem : T.t.cls.getD cn (T.t.cls.headD "") ∈ T.t.cls := by
      rw [List.getD_eq_getElem?_getD]
      cases q : T.t.cls[cn]? with
      | some y => exact List.mem_of_getElem? q
      | none =>
        cases e : T.t.cls with
        | nil => exact absurd e hne
        | cons y r => exact List.mem_cons_self
    have z := k7 f hf _ mem
    exact ⟨He.cls_ok (has_ok c z.2), He.noat_ok (has_ok c z.1)⟩
  · have z := k9 y (List.mem_of_getElem? hy)
    have e : (T.W K).xc cn = He.ga K y := by
      show He.ga K (T.t.exc.getD cn _) = _
      rw [List.getD_eq_getElem?_getD, hy]; rfl
    rw [e]
    obtain ⟨x1, x2, x3, x4⟩ := He.exc_ok (has_ok c z.1)
    exact ⟨He.glo_ok X G (has_ok c z.2), x2, fun M h k => ⟨PySem.W.looks_subIn k x3, PySem.W.looks_typeIn k x4⟩, _, _, _, _, (by first | exact PyProof.excBase_ValueError | exact PyProof.Rows.excBase_ValueError | exact PySem.excBase_ValueError | exact PySem.F.excBase_ValueError), x1⟩
  · obtain ⟨d, N, e1, e2, e3, e4, e5, e6⟩ := at_ hf
    obtain ⟨oc, od, dV, kV, doc, pm, an, cdv, ct, osl, q1, q2, q3, _, _⟩ := (hfd f d e1).ex
    exact ⟨d.name, d.qual, d.params, d.body, d.scope, dV, kV, doc, pm, cdv, ct, oc, an, od, osl, N, q1, by rw [Fa e1]; exact q2, q3, by rw [Fp e2 hf]; exact e3, e4, by rw [Fp e2 hf, List.length_take]; omega, e6⟩
  · obtain ⟨⟨d, e1, e2⟩, e3⟩ := okGlo_at k2 hy
    rw [Nat.zero_add] at e1
    have ea : F.fa f = He.ga K y := by rw [Fa e1, e2]; rfl
    rw [ea]
    refine ⟨He.glo_ok X G (has_ok c e3), ?_⟩
    have := (hfd f d e1).kp
    rw [e2] at this
    exact this
  · obtain ⟨d, N, e1, e2, _⟩ := at_ hf
    rw [Fp e2 hf]
    exact hb f fi d N _ _ hf e1 e2 (hfd f d e1) j hj
  · obtain ⟨z1, z2, z3, z4⟩ := okCls_at k3 hc
    rw [Nat.zero_add] at z1
    have z5 := z4 (m, f) (PySem.mem_of_lookup hm)
    unfold okMeth at z5
    simp only [Bool.and_eq_true, decide_eq_true_eq] at z5
    obtain ⟨⟨⟨w1, w2⟩, w3⟩, w4⟩ := z5
    cases q : T.fn[f]? with
    | none => rw [q] at w3; cases w3
    | some d =>
      rw [q] at w3
      have ed : d.at_ = (ci.name, some m) := of_decide_eq_true w3
      have ea : F.fa f = He.ma K (He.ga K ci.name) m := by rw [Fa q, ed]; rfl
      rw [clN z1, ea]
      exact ⟨He.meth_ok (has_ok c w1), ⟨_, List.getElem?_eq_getElem w4⟩⟩
  · obtain ⟨z1, z2, z3, z4⟩ := okCls_at k3 hc
    rw [Nat.zero_add] at z1
    rw [clN z1]
    exact He.cls_ok (has_ok c z2)
  · have hlt : cn < T.P.cls.length := by rw [← k4]; exact (List.getElem?_eq_some_iff.mp hy).1
    obtain ⟨z1, z2, z3, z4⟩ := okCls_at k3 (List.getElem?_eq_getElem hlt)
    rw [Nat.zero_add, hy] at z1
    have ey := Option.some.inj z1
    rw [clN hy]
    refine ⟨He.glo_ok X G (has_ok c (ey ▸ z3)), fun ci f hc hm => ?_⟩
    rw [List.getElem?_eq_getElem hlt] at hc
    cases hc
    have z5 := z4 ("__init__", f) (PySem.mem_of_lookup hm)
    unfold okMeth at z5
    simp only [Bool.and_eq_true, decide_eq_true_eq, Bool.or_eq_true, Bool.not_eq_true'] at z5
    obtain ⟨⟨⟨w1, w2⟩, w3⟩, w4⟩ := z5
    have w5 : T.has (.mkr (T.P.cls[cn]'hlt).name) = true := w2.resolve_left (by simp)
    cases q : T.fn[f]? with
    | none => rw [q] at w3; cases w3
    | some d =>
      rw [q] at w3
      have ed : d.at_ = ((T.P.cls[cn]'hlt).name, some ("__init__" : Str)) := of_decide_eq_true w3
      have ea : F.fa f = He.ma K (He.ga K (T.P.cls[cn]'hlt).name) "__init__" := by rw [Fa q, ed]; rfl
      rw [ea, ey]
      exact He.mkr_ok (has_ok c w5)
end
end Z

namespace Z
open PySem L2 PySem.Spec PyProof.Rows
abbrev CXz : CXT := fun _ _ _ _ _ _ => False
theorem fn_z {p : Program} {w : World} {K : PySem.W.Frag} {mg : Str → Option Value} {base : Heap} {k : Nat} {f : Addr} {fd : FuncData} {ps : List Str} {sp : Sp} (F : FnOk p w K mg base (L2.CX p w) k f fd ps sp) :
    FnOk p w K mg base CXz k f fd ps (fun vs H Q _ => sp vs H Q fun _ _ _ => False) := ⟨fun vs H Q _ h => F.len vs H Q _ h, fun A outer s H args us vs Q E hr e0 hb r h => codeAny_mono (F.run A outer s H args us vs Q _ hr e0 hb r h) fun r s' hq => by
  cases r with
  | error e =>
    obtain ⟨_, _, _, _, _, _, _, _, _, _, _, _, z⟩ := hq
    exact z.elim
  | ok fl => cases fl with
    | ret u => exact hq
    | next => exact hq
    | brk => exact hq
    | cont => exact hq⟩
theorem rv_ints {W : Wr} {ρ : Rho} {G : Hp} : ∀ ns : List Int, RvL W ρ G (ns.map D.int) (ns.map V.int)
  | [] => rfl
  | n :: ns => ⟨.int n, ns.map V.int, rfl, rfl, rv_ints ns⟩
theorem rg_start {W : Wr} {H : Hp} : Rg W ⟨H, H, fun _ => none, fun _ => []⟩ [] H := ⟨Ex.refl _, Ex.refl _, fun _ _ z => z, fun n b z => (by cases z), fun n b z => (by cases z), fun n m b c z => (by cases z), fun n b z => (by cases z), fun n a z => (by cases z)⟩
theorem law_end {l : PySem.W.OpenLaw} {q : Program} {loose : List Str} {XP : (Str → Option Value) → Heap → Prop} {d : DefRec} {T : Tab} {f n : Nat} {x : Str} {fi : FnI} {N : List Str} {dd : He.DefD}
    (hn : l.most = some 63) (hdf : d.params.defaults = []) (hname : d.name = ("law" : Str)) (hr : Room (2 * n) callerA) (ok : okTab T = true) (hb : ∀ K, BindsOk T K) (h1 : T.t.fns[f]? = some ("law" : Str)) (h2 : T.P.fns[f]? = some fi) (h3 : fi.np = 1) (h4 : T.Ns[f]? = some N) (h5 : N.take 1 = [x])
    (h6 : T.fn[f]? = some dd) (h7 : dd.dfl = [])
    (hA : ∀ (kV doc pm : Value) (an : Option Addr) (cdv ct : Value) (us : List Value), us.length = 1 → bindArgs (PySem.W.fnOf dd.name dd.qual dd.params dd.body dd.scope .none kV doc pm an cdv ct) ⟨us, []⟩ = pure ([x].zip us))
    (hrun : ∀ ns : List Int, ns.length ≤ 63 → ∃ k S', run T.P n f [(false, .lst (ns.map .int))] [] = .ok (k, .bl true, S')) :
    PySem.W.WalkO q loose XP (hookX 4 T.fa T.fn T.t.exc).says l.row.toRowW d [] (fun f vs => PySem.call f vs) := by
  refine L2.walk_ofE (l := l) (n := 63) (k := 2 * n) (x := x) (CX := CXz) hn (by decide) hdf hr ?_ (fun _ _ _ _ z => z)
  intro w mg fa h Y G hmg0
  obtain ⟨K, KX, c⟩ := Y
  obtain ⟨F, wd, hF⟩ := wd_of ok (hb K) KX G c.d c.x
  obtain ⟨e1, e2, FD⟩ := hF f dd N fi h6 h4 h2
  rw [hname] at hmg0
  have em := (wd.mgf f _ h1).1
  rw [hmg0] at em
  have efa : fa = F.fa f := by
    have := Option.some.inj em
    injection this
  rw [h3, h5] at e2
  refine ⟨K, F.fd f, fun vs H Q _ => spZ (T.W K) (run T.P n f) fi.np vs H Q fun _ _ _ => False, KX, fun s u => ?_, fun H a ns hl hO hS => ?_, fun base hbK hbN => ?_⟩
  · have edv : dd.dvs K = [] := by unfold He.DefD.dvs; rw [h7]; rfl
    rw [edv] at FD
    exact FunD.bindsA (ps := [x]) FD hA s [u] rfl
  · obtain ⟨k, S', e⟩ := hrun ns hl
    refine ⟨by rw [h3]; rfl, ⟨H, H, fun _ => none, fun _ => []⟩, [], [(false, .lst (ns.map .int))], rg_start,
      ⟨.ref a, [], rfl, ⟨a, ns.map V.int, rfl, hS, rv_ints ns⟩, rfl⟩, ?_⟩
    rw [e]
    exact fun g' H' v fp R' gr rk fr => rk_bl R' rk
  · have := fn_z (fn_ok (p := l.prog) (w := w) (base := base) wd n f fi h2)
    rw [efa, ← e2]
    exact this
end Z

namespace Z
open PySem L2 PySem.Spec PyProof.Rows
def BndOne (T : Tab) (i : Nat) (fi : FnI) : Prop := ∃ (d : He.DefD) (N : List Str), T.fn[i]? = some d ∧ T.Ns[i]? = some N ∧ (N.take fi.np).length = fi.np ∧
  ((d.dfl = [] ∧ fi.dfl = [] ∧ ∀ (kV doc pm : Value) (an : Option Addr) (cdv ct : Value) (us : List Value), us.length = fi.np → bindArgs (PySem.W.fnOf d.name d.qual d.params d.body d.scope .none kV doc pm an cdv ct) ⟨us, []⟩ = pure ((N.take fi.np).zip us)) ∨
   (∃ z : Int, d.dfl = [.int z] ∧ fi.dfl = [.int z] ∧ ∃ m, fi.np = m + 1 ∧
     (∀ (T : Addr) (kV doc pm : Value) (an : Option Addr) (cdv ct : Value) (us its : List Value), us.length = m → its.length = 1 →
      ∃ k, bindArgs (PySem.W.fnOf d.name d.qual d.params d.body d.scope (.ref T) kV doc pm an cdv ct) ⟨us, []⟩ = seqItems? (.ref T) >>= k ∧ k (some its.toArray) = pure ((N.take fi.np).zip (us ++ its))) ∧
     (∀ (T : Addr) (kV doc pm : Value) (an : Option Addr) (cdv ct : Value) (us its : List Value), us.length = m + 1 → its.length = 1 →
      ∃ k, bindArgs (PySem.W.fnOf d.name d.qual d.params d.body d.scope (.ref T) kV doc pm an cdv ct) ⟨us, []⟩ = seqItems? (.ref T) >>= k ∧ k (some its.toArray) = pure ((N.take fi.np).zip us))))
def BndAll (T : Tab) : Nat → List FnI → Prop
  | _, [] => True
  | i, fi :: r => BndOne T i fi ∧ BndAll T (i + 1) r
theorem BndAll.at_ {T : Tab} : ∀ {i : Nat} {l : List FnI}, BndAll T i l → ∀ {f : Nat} {fi : FnI}, l[f]? = some fi → BndOne T (i + f) fi
  | _, [], _, _, _, e => by cases e
  | i, x :: r, ⟨h1, h2⟩, f, fi, e => by
    cases f with
    | zero => cases e; exact h1
    | succ f =>
      have := h2.at_ (f := f) e
      rw [show i + (f + 1) = i + 1 + f by omega]; exact this
theorem binds_of {T : Tab} (h : BndAll T 0 T.P.fns) (K : PySem.W.Frag) : BindsOk T K := fun f fi d N a fd h1 h2 h3 F j hj => by
  obtain ⟨d', N', e1, e2, e3, e4⟩ := h.at_ h1
  rw [Nat.zero_add] at e1 e2
  rw [h2] at e1; cases e1
  rw [h3] at e2; cases e2
  rcases e4 with ⟨e4, e5, e6⟩ | ⟨z, e4, e5, m, e6, e7, e8⟩
  · have edv : d.dvs K = [] := by unfold He.DefD.dvs; rw [e4]; rfl
    rw [edv] at F
    refine ⟨[], [], FunD.bindsN F fun kV doc pm an cdv ct us hl => e6 kV doc pm an cdv ct us (by rw [hl, e3]), .nil, fun ρ G => ?_⟩
    rw [e5, List.drop_nil]; rfl
  · have edv : d.dvs K = [.int z] := by unfold He.DefD.dvs; rw [e4]; rfl
    rw [edv] at F
    rw [e5] at hj ⊢
    have hj' : j ≤ 1 := hj
    have hj2 : j = 0 ∨ j = 1 := by omega
    rcases hj2 with rfl | rfl
    · obtain ⟨ds, r, b⟩ := FunD.binds1 F (m + 1) 1 (by simp) (by rw [e3, e6]; rfl) fun T kV doc pm an cdv ct us its hu hi => by
        obtain ⟨k, k1, k2⟩ := e8 T kV doc pm an cdv ct us its hu hi
        refine ⟨k, k1, ?_⟩
        rw [k2]
        have : its.drop 1 = [] := by
          match its, hi with
          | [_], _ => rfl
        rw [this, List.append_nil]
      exact ⟨ds, [], b, r, fun ρ G => rfl⟩
    · obtain ⟨ds, r, b⟩ := FunD.binds1 F m 0 (by simp) (by rw [e3, e6]; rfl) fun T kV doc pm an cdv ct us its hu hi => e7 T kV doc pm an cdv ct us its hu hi
      exact ⟨ds, [.int z], b, r, fun ρ G => ⟨.int z, [], rfl, rfl, rfl⟩⟩
end Z

namespace Z
section
variable {Γ : Ga} {env env' e' : EnvD} {S S1 S2 : Sto} {m m1 m2 : Bool} {k k1 k2 : Kd} {d d1 d2 : D} {a b c : E} {es : List E} {as : List Vd} {i j : Int} {s : St} {ss : List St} {r : SO}
theorem exs_nx (h : ex1 Γ s env S = .nx e' S1) (h2 : exs Γ ss e' S1 = r) : exs Γ (s :: ss) env S = r := by
  rw [exs, h]; exact h2
theorem exs_ret (h : ex1 Γ s env S = .ret k d S1) : exs Γ (s :: ss) env S = .ret k d S1 := by
  rw [exs, h]
theorem exs_nil : exs Γ [] env S = .nx env S := by rw [exs]
theorem ex1_asg {n : Nat} {bo : Option (Nat × Bool)} (h : ev Γ a env S = .ok (k, d, S1, m)) (hb : bindV env S1 n bo (k, d) = some (e', S2)) : ex1 Γ (.asg n bo a) env S = .nx e' S2 := by
  rw [ex1, h]
  show oso (bindV env S1 n bo (k, d)) _ = _
  rw [hb]; rfl
theorem ex1_ret (h : ev Γ a env S = .ok (k, d, S1, m)) (ht : isTn (k, d) = false) : ex1 Γ (.ret a) env S = .ret k d S1 := by
  rw [ex1, h]
  show (if isTn (k, d) = true then _ else _) = _
  rw [ht]; rfl
theorem ex1_ite {q : Bool} {cc : Cd} {x y : List St} (h : tst Γ cc env S = .ok (q, S1, m)) (h2 : exs Γ (if q then x else y) env S1 = r) : ex1 Γ (.ite cc x y) env S = r := by
  rw [ex1, h, ← h2]
  cases q <;> rfl
theorem tst_b {q : Bool} (h : ev Γ a env S = .ok (k, .bl q, S1, m)) : tst Γ (.b a) env S = .ok (q, S1, m) := by
  rw [tst, h]; rfl
theorem tst_t {q : Bool} (h : ev Γ a env S = .ok (k, d, S1, m)) (hd : der S1 (k, d) = some (k1, d1)) (ht : truthD d1 = some q) : tst Γ (.t a) env S = .ok (q, S1, m) := by
  rw [tst, h]
  show (ofO ((der S1 (k, d)).bind fun a => truthD a.2)).bind _ = _
  rw [hd]
  show (ofO (truthD d1)).bind _ = _
  rw [ht]; rfl
theorem tst_not {q : Bool} {cc : Cd} (h : tst Γ cc env S = .ok (q, S1, m)) : tst Γ (.not' cc) env S = .ok (!q, S1, m) := by
  rw [tst, h]; rfl
theorem tst_or {q q2 : Bool} {x y : Cd} (h : tst Γ x env S = .ok (q, S, false)) (h2 : tst Γ y env S = .ok (q2, S, false)) : tst Γ (.or' x y) env S = .ok (q || q2, S, false) := by
  rw [tst, h]
  show (if q = true then _ else _) = _
  cases q with
  | true => rfl
  | false =>
    show (tst Γ y env S).bind _ = _
    rw [h2]; rfl
theorem tst_and {q q2 : Bool} {x y : Cd} (h : tst Γ x env S = .ok (q, S, false)) (h2 : tst Γ y env S = .ok (q2, S, false)) : tst Γ (.and' x y) env S = .ok (q && q2, S, false) := by
  rw [tst, h]
  show (if q = true then _ else _) = _
  cases q with
  | false => rfl
  | true =>
    show (tst Γ y env S).bind _ = _
    rw [h2]; rfl
theorem evs_nil' : evs Γ [] env S = .ok ([], S, false) := by rw [evs]
theorem evs_c (h : ev Γ a env S = .ok (k, d, S, false)) (h2 : evs Γ es env S = .ok (as, S, false)) : evs Γ (a :: es) env S = .ok ((k, d) :: as, S, false) := by
  rw [evs, h]
  show (evs Γ es env S).bind _ = _
  rw [h2]; rfl
theorem evs_1 (h : ev Γ a env S = .ok (k, d, S, false)) : evs Γ [a] env S = .ok ([(k, d)], S, false) := evs_c h evs_nil'
theorem evs_2 (h : ev Γ a env S = .ok (k, d, S, false)) (h2 : ev Γ b env S = .ok (k1, d1, S, false)) : evs Γ [a, b] env S = .ok ([(k, d), (k1, d1)], S, false) := evs_c h (evs_1 h2)
theorem ev_op {o : Op} {bs : List Vd} (ho : isMth o = false) (h : evs Γ es env S = .ok (as, S1, m)) (hd : derL S1 as = some bs) (hv : opv o S1 bs = some (k, d)) : ev Γ (.op o es) env S = .ok (k, d, S1, m) := by
  rw [ev, ho]
  show (evs Γ es env S).bind _ = _
  rw [h]
  show (ofO ((derL S1 as).bind fun bs => opv o S1 bs)).bind _ = _
  rw [hd]
  show (ofO (opv o S1 bs)).bind _ = _
  rw [hv]; rfl
theorem ev_v {n : Nat} {l : Bool} (h : env[n]? = some (some (l, d))) : ev Γ (.v n false) env S = .ok (.vl l, d, S, false) := by
  rw [ev, h]; rfl
theorem ev_k : ev Γ (.k d) env S = .ok (.vl false, d, S, false) := by rw [ev]
theorem ev_int2 {o : Op} (h : ev Γ a env S = .ok (k, .int i, S, false)) (h2 : ev Γ b env S = .ok (k1, .int j, S, false)) (ho : isMth o = false) (hv : opv o S [(k, .int i), (k1, .int j)] = some (k2, d)) : ev Γ (.op o [a, b]) env S = .ok (k2, d, S, false) :=
  ev_op ho (evs_2 h h2) rfl hv
theorem ev_mod (h : ev Γ a env S = .ok (k, .int i, S, false)) (h2 : ev Γ b env S = .ok (k1, .int j, S, false)) (hj : 0 < j) : ev Γ (.op .mod [a, b]) env S = .ok (.vl false, .int (i % j), S, false) :=
  ev_int2 h h2 rfl (by show Option.map _ (if 0 < j then some (D.int (i % j)) else none) = _; rw [if_pos hj]; rfl)
theorem ev_fdiv (h : ev Γ a env S = .ok (k, .int i, S, false)) (h2 : ev Γ b env S = .ok (k1, .int j, S, false)) (hj : 0 < j ∧ j.natAbs.log2 < 9000) : ev Γ (.op .fdiv [a, b]) env S = .ok (.vl false, .int (i / j), S, false) :=
  ev_int2 h h2 rfl (by show Option.map _ (if 0 < j ∧ j.natAbs.log2 < 9000 then some (D.int (i / j)) else none) = _; rw [if_pos hj]; rfl)
theorem ev_add (h : ev Γ a env S = .ok (k, .int i, S, false)) (h2 : ev Γ b env S = .ok (k1, .int j, S, false)) : ev Γ (.op .add [a, b]) env S = .ok (.vl false, .int (i + j), S, false) := ev_int2 h h2 rfl rfl
theorem ev_sub (h : ev Γ a env S = .ok (k, .int i, S, false)) (h2 : ev Γ b env S = .ok (k1, .int j, S, false)) : ev Γ (.op .sub [a, b]) env S = .ok (.vl false, .int (i - j), S, false) := ev_int2 h h2 rfl rfl
theorem kid_get {xs : List D} {l : Bool} (h0 : 0 ≤ i) (h1 : i < xs.length) (hx : xs[i.toNat]? = some d) : kid S (.vl l) xs i = some (norm (.vl l, d)) := by
  unfold kid L2.ixN
  rw [if_pos h0, if_pos h1]
  show (xs[i.toNat]?).bind _ = _
  rw [hx]; rfl
theorem kid_get1 {xs : List D} {l : Bool} (h0 : 0 ≤ i) (h1 : i < xs.length) (hx : xs[i.toNat]? = some d) : kid S (.fr 1 l) xs i = some (norm (.vl l, d)) := by
  unfold kid L2.ixN
  rw [if_pos h0, if_pos h1]
  show (xs[i.toNat]?).bind _ = _
  rw [hx]; rfl
theorem kid_geti1 {xs : List D} {l : Bool} (h0 : 0 ≤ i) (h1 : i < xs.length) (hx : xs[i.toNat]? = some (.int j)) : kid S (.fr 1 l) xs i = some (.vl false, .int j) := kid_get1 h0 h1 hx
theorem kid_geti {xs : List D} {l : Bool} (h0 : 0 ≤ i) (h1 : i < xs.length) (hx : xs[i.toNat]? = some (.int j)) : kid S (.vl l) xs i = some (.vl false, .int j) := kid_get h0 h1 hx
theorem norm_int {l : Bool} : norm (.vl l, .int i) = (.vl false, .int i) := rfl
theorem call_p {f : Nat} {r : Kd × D × Sto} (h : evs Γ es env S = .ok (as, S1, m)) (hn : (as.map (argP S1)).all (fun a => a.2.noBx) = true) (hc : Γ.call f (as.map (argP S1)) [] = .ok r) (ho : outP r = .ok (k, d)) : ev Γ (.call true f es) env S = .ok (k, d, S1, m) := by
  rw [ev, h]
  show callP Γ f (as.map (argP S1)) S1 m = _
  unfold callP
  rw [if_pos hn, hc]
  show (outP r).bind _ = _
  rw [ho]; rfl
theorem run_ret {P : Pg} {n f : Nat} {fi : FnI} {xs : List (Bool × D)} (hf : P.fns[f]? = some fi) (h : xs.length = fi.np) (hb : exs (gam P n) fi.body (xs.map some ++ List.replicate (fi.nl - fi.np) none) S = .ret k d S1) (hh : fi.hot = false := by rfl) : run P (n + 1) f xs S = .ok (k, d, S1) := by
  rw [run_eq hf hh h, hb]
theorem run_nx {P : Pg} {n f : Nat} {fi : FnI} {xs : List (Bool × D)} (hf : P.fns[f]? = some fi) (h : xs.length = fi.np) (hb : exs (gam P n) fi.body (xs.map some ++ List.replicate (fi.nl - fi.np) none) S = .nx env S1) (hh : fi.hot = false := by rfl) : run P (n + 1) f xs S = .ok (.vl false, .non, S1) := by
  rw [run_eq hf hh h, hb]
theorem ev_lst {dp : Nat} {ln : Bool} {bs : List Vd} (h : evs Γ es env S = .ok (as, S1, m)) (hd : derL S1 as = some bs) (ha : bs.all (fits dp ln) = true) (hl : bs.length ≤ 1000) : ev Γ (.op (.lstD dp ln) es) env S = .ok (.fr (dp + 1) ln, .lst (bs.map (·.2)), S1, m) :=
  ev_op rfl h hd (if_pos ⟨ha, by rw [PySem.sizeLine_eq]; omega⟩)
theorem ev_tup {dp : Nat} {ln : Bool} {bs : List Vd} (h : evs Γ es env S = .ok (as, S1, m)) (hd : derL S1 as = some bs) (ha : bs.all (fits dp ln) = true) (hl : bs.length ≤ 1000) : ev Γ (.op (.tupD dp ln) es) env S = .ok ((norm (.fr (dp + 1) ln, .tup (bs.map (·.2)))).1, (norm (.fr (dp + 1) ln, .tup (bs.map (·.2)))).2, S1, m) :=
  ev_op rfl h hd (if_pos ⟨ha, by rw [PySem.sizeLine_eq]; omega⟩)
theorem ex1_for0 {tg : List Nat} {tp : Bool} {it : It} {b : List St} {items : List (Bool × D)} (h : evIt Γ it env S = .ok (items, none, S1, m)) (h2 : forGo items (fun x e s => oso (bindT e tg tp x) fun e' => exs Γ b e' s) env S1 = r) : ex1 Γ (.for' tg tp it b) env S = r := by
  rw [ex1, h]; exact h2
theorem evIt_rng1 {n : Int} (h : evs Γ es env S = .ok ([(k, .int n)], S1, m)) (hn : -(2 ^ 62) ≤ n ∧ n < 2 ^ 62) : evIt Γ (.rng es) env S = .ok ((List.range n.toNat).map fun (i : Nat) => (false, D.int i), none, S1, m) := by
  rw [evIt, h]
  show (if -(2 ^ 62) ≤ n ∧ n < 2 ^ 62 then _ else _) = _
  rw [if_pos hn]
theorem evIt_seqL {q : Bool} {xs : List D} {l : Bool} (h : ev Γ a env S = .ok (.vl l, .lst xs, S1, m)) (hl : settle S1 (.vl l) xs = some q) : evIt Γ (.seq a) env S = .ok (xs.map fun d => (q, d), none, S1, m) := by
  rw [evIt, h]
  show (ofO (itemsOf S1 (.vl l) xs)).bind _ = _
  have e : itemsOf S1 (.vl l) xs = (settle S1 (.vl l) xs).map fun l => (xs.map fun d => (l, d), none) := rfl
  rw [e, hl]; rfl
/-- a walk whose turns keep I and the store -/
theorem forGo_inv {items : List (Bool × D)} {f : Bool × D → EnvD → Sto → SO} (I : EnvD → Prop) (hs : ∀ x ∈ items, ∀ e, I e → ∃ e', (f x e S = .nx e' S ∨ f x e S = .ct e' S) ∧ I e') : ∀ {env : EnvD}, I env → ∃ e', forGo items f env S = .nx e' S ∧ I e' := by
  induction items with
  | nil => intro env h; exact ⟨env, rfl, h⟩
  | cons x r ih =>
    intro env h
    obtain ⟨e1, h1, h2⟩ := hs x List.mem_cons_self env h
    obtain ⟨e2, h3, h4⟩ := ih (fun y hy => hs y (List.mem_cons_of_mem _ hy)) h2
    refine ⟨e2, ?_, h4⟩
    show (match f x env S with
      | .nx e s => forGo r f e s
      | .ct e s => forGo r f e s
      | o => o) = _
    rcases h1 with h1 | h1 <;> rw [h1] <;> exact h3
end
end Z

namespace Z
open PySem L2
section
variable {Γ : Ga} {env env' e' : EnvD} {S S1 S2 : Sto} {m m1 m2 : Bool} {k k1 k2 : Kd} {d d1 d2 : D} {a b c : E} {es : List E} {as : List Vd} {i j : Int} {s : Z.St} {ss : List Z.St} {r : SO} {x y : Str}
theorem small {n : Nat} (h : n ≤ 100000) : n ≤ sizeLine := by rw [sizeLine_eq]; omega
theorem opv_sadd (h : x.length + y.length ≤ 100000) : opv .add S [(k, .str x), (k1, .str y)] = some (.vl false, .str (x ++ y)) := if_pos (small h)
theorem ev_sadd (h : ev Γ a env S = .ok (k, .str x, S, false)) (h2 : ev Γ b env S = .ok (k1, .str y, S, false)) (hz : x.length + y.length ≤ 100000) : ev Γ (.op .add [a, b]) env S = .ok (.vl false, .str (x ++ y), S, false) :=
  ev_op rfl (evs_2 h h2) rfl (opv_sadd hz)
theorem ev_lenS (h : ev Γ a env S = .ok (k, .str x, S, false)) (hz : x.length ≤ 100000) : ev Γ (.op .len [a]) env S = .ok (.vl false, .int x.length, S, false) :=
  ev_op rfl (evs_1 h) rfl (by
    show Option.map _ (if x.length ≤ sizeLine then some (D.int x.length) else none) = _
    rw [if_pos (small hz)]; rfl)
theorem ev_idxS (h : ev Γ a env S = .ok (k, .str x, S, false)) (h2 : ev Γ b env S = .ok (k1, .int i, S, false)) (hz : x.length ≤ 100000) {q : Nat} (hx : atI x.cps.toList i = some q) : ev Γ (.op .idx [a, b]) env S = .ok (.vl false, .str ⟨#[q]⟩, S, false) :=
  ev_op rfl (evs_2 h h2) rfl (by
    show (if x.length ≤ sizeLine then (atI x.cps.toList i).bind fun c => vT (.str ⟨#[c]⟩) else none) = _
    rw [if_pos (small hz), hx]; rfl)
theorem atS (h0 : 0 ≤ i) (h1 : i < x.length) : ∃ q, atI x.cps.toList i = some q := by
  have hl : x.cps.toList.length = x.length := by simp [Str.length]
  have : i.toNat < x.cps.toList.length := by omega
  refine ⟨x.cps.toList[i.toNat], ?_⟩
  unfold atI ixN
  rw [if_pos h0, if_pos (by omega)]
  exact List.getElem?_eq_getElem this
theorem ev_slS_hi (h : ev Γ a env S = .ok (k, .str x, S, false)) (h2 : ev Γ b env S = .ok (k1, .int i, S, false)) (hz : x.length ≤ 100000) : ev Γ (.op (.sl false true) [a, b]) env S = .ok (.vl false, .str (cutS x none (some i)), S, false) :=
  ev_op rfl (evs_2 h h2) rfl (by
    show (if x.length ≤ sizeLine then vT (.str (cutS x none (some i))) else none) = _
    rw [if_pos (small hz)]; rfl)
theorem ev_slS_lo (h : ev Γ a env S = .ok (k, .str x, S, false)) (h2 : ev Γ b env S = .ok (k1, .int i, S, false)) (hz : x.length ≤ 100000) : ev Γ (.op (.sl true false) [a, b]) env S = .ok (.vl false, .str (cutS x (some i) none), S, false) :=
  ev_op rfl (evs_2 h h2) rfl (by
    show (if x.length ≤ sizeLine then vT (.str (cutS x (some i) none)) else none) = _
    rw [if_pos (small hz)]; rfl)
theorem cut_len (lo hi : Option Int) : (cutS x lo hi).length ≤ x.length := by
  unfold cutS
  simp only [Str.length, List.size_toArray, List.length_take, List.length_drop, Array.length_toList]
  omega
theorem strsOf_map : ∀ xs : List Str, strsOf (xs.map D.str) = some xs
  | [] => rfl
  | z :: xs => by
    show (strsOf (xs.map D.str)).map (fun r => z :: r) = _
    rw [strsOf_map xs]; rfl
theorem intsOf_map : ∀ xs : List Int, intsOf (xs.map D.int) = some xs
  | [] => rfl
  | z :: xs => by
    show (intsOf (xs.map D.int)).map (fun r => z :: r) = _
    rw [intsOf_map xs]; rfl
theorem ev_join {xs : List Str} (h : ev Γ a env S = .ok (k, .str x, S, false)) (h2 : ev Γ b env S = .ok (k1, .lst (xs.map D.str), S, false)) (hz : (xs.map (·.length)).sum + xs.length * x.length ≤ 100000) : ev Γ (.op .join [a, b]) env S = .ok (.vl false, .str (Txt.join x xs), S, false) := by
  rw [ev]
  show (noxIf true (evs Γ [a, b] env S)).bind _ = _
  rw [evs_2 h h2]
  show (ofO (opv .join S [(k, .str x), (k1, .lst (xs.map D.str))])).bind _ = _
  have : opv .join S [(k, .str x), (k1, .lst (xs.map D.str))] = some (.vl false, .str (Txt.join x xs)) := by
    show Option.map _ ((strsOf (xs.map D.str)).bind fun ys => if (ys.map (·.length)).sum + ys.length * x.length ≤ 16777216 then some (D.str (Txt.join x ys)) else none) = _
    rw [strsOf_map]
    show Option.map _ (if (xs.map (·.length)).sum + xs.length * x.length ≤ 16777216 then some (D.str (Txt.join x xs)) else none) = _
    rw [if_pos (by omega)]; rfl
  rw [this]; rfl
theorem lcGo_map {α : Type} {items : List α} {f : α → R (Option D)} {g : α → D} (h : ∀ z ∈ items, f z = .ok (some (g z))) : lcGo items f = .ok (items.map g) := by
  induction items with
  | nil => rfl
  | cons z r ih =>
    show (f z).bind (fun o => (lcGo r f).bind fun ds => .ok (match o with
      | some d => d :: ds
      | none => ds)) = _
    rw [h z List.mem_cons_self, ih fun w hw => h w (List.mem_cons_of_mem _ hw)]
    rfl
theorem ev_lc {dp : Nat} {ln : Bool} {tg : List Nat} {tp : Bool} {it : Z.It} {ifs : List Cd} {items : List (Bool × D)} {bo : Option Nat} {ds : List D} (h : evIt Γ it env S = .ok (items, bo, S1, false))
    (hg : lcGo items (fun x => (ofO (bindT env tg tp x)).bind fun env' => (evC Γ ifs env' (lockO S bo)).bind fun b => if b then (ev Γ a env' (lockO S bo)).bind fun (k, d, _, m2) => if m2 || !fits dp ln (k, d) then .stuck else .ok (some d) else .ok none) = .ok ds) (hz : ds.length ≤ 100000) :
    ev Γ (.lc dp ln tg tp it ifs a) env S = .ok (.fr (dp + 1) ln, .lst ds, S, false) := by
  rw [ev, h]
  show (lcGo items _).nox.bind _ = _
  rw [hg]
  show (if ds.length ≤ sizeLine then _ else _) = _
  rw [if_pos (small hz)]
/-- a turn of a comprehension without tests -/
theorem lc_turn {dp : Nat} {ln : Bool} {tg : List Nat} {tp : Bool} {z : Bool × D} {T : Sto} (hb : bindT env tg tp z = some env') (h : ev Γ a env' T = .ok (k, d, S1, false)) (hf : fits dp ln (k, d) = true) :
    ((ofO (bindT env tg tp z)).bind fun env' => (evC Γ [] env' T).bind fun b => if b then (ev Γ a env' T).bind fun (k, d, _, m2) => if m2 || !fits dp ln (k, d) then .stuck else .ok (some d) else .ok none) = .ok (some d) := by
  have e0 : evC Γ [] env' T = .ok true := by rw [evC]
  rw [hb, ofO_some, R.bind_ok, e0, R.bind_ok, if_pos rfl, h, R.bind_ok]
  show (if (false || !fits dp ln (k, d)) = true then _ else _) = _
  rw [hf]; rfl
theorem evIt_str (h : ev Γ a env S = .ok (.vl false, .str x, S1, m)) : evIt Γ (.seq a) env S = .ok (x.cps.toList.map fun c => (false, .str ⟨#[c]⟩), none, S1, m) := by
  rw [evIt, h]; rfl
theorem ev_mul (h : ev Γ a env S = .ok (k, .int i, S, false)) (h2 : ev Γ b env S = .ok (k1, .int j, S, false)) (hi : i.natAbs ≤ 400000) (hj : j.natAbs ≤ 400000) : ev Γ (.op .mul [a, b]) env S = .ok (.vl false, .int (i * j), S, false) :=
  ev_op rfl (evs_2 h h2) rfl (by
    have l1 := Nat.log2_le_self i.natAbs
    have l2 := Nat.log2_le_self j.natAbs
    have e : opv .mul S [(k, .int i), (k1, .int j)] = if i.natAbs.log2 + j.natAbs.log2 < 1000000 then vT (.int (i * j)) else none := by
      cases k with
      | fr n l => cases n <;> rfl
      | _ => rfl
    rw [e, if_pos (by omega)]; rfl)
theorem lcGo_strs {α : Type} {items : List α} {f : α → R (Option D)} {n : Nat} (h : ∀ z ∈ items, ∃ t : Str, t.length ≤ n ∧ f z = .ok (some (.str t))) : ∃ xs : List Str, lcGo items f = .ok (xs.map D.str) ∧ xs.length = items.length ∧ (xs.map (·.length)).sum ≤ n * items.length := by
  induction items with
  | nil => exact ⟨[], rfl, rfl, by simp⟩
  | cons z r ih =>
    obtain ⟨t, h1, h2⟩ := h z List.mem_cons_self
    obtain ⟨xs, h3, h4, h5⟩ := ih fun w hw => h w (List.mem_cons_of_mem _ hw)
    refine ⟨t :: xs, ?_, by simp [h4], ?_⟩
    · show (f z).bind (fun o => (lcGo r f).bind fun ds => .ok (match o with
        | some d => d :: ds
        | none => ds)) = _
      rw [h2, h3]; rfl
    · simp only [List.map_cons, List.sum_cons, List.length_cons, Nat.mul_succ]
      omega
theorem join_len {sep : Str} {xs : List Str} {n : Nat} (h : (xs.map (·.length)).sum + xs.length * sep.length ≤ n) : (Txt.join sep xs).length ≤ n := by
  have e : Txt.join sep xs = Str.join sep xs := by first | exact TL.join_eq sep xs | exact PySem.StrLaws.glued_eq_join sep xs
  rw [e]
  exact Nat.le_trans (StrLaws.join_length_le sep xs) h
/-- a walk that ends early where p fails -/
theorem forGo_all {items : List (Bool × D)} {f : Bool × D → EnvD → Sto → SO} {p : Bool × D → Bool} (I : EnvD → Prop) (hs : ∀ x ∈ items, ∀ e, I e → (p x = true → ∃ e', f x e S = .nx e' S ∧ I e') ∧ (p x = false → f x e S = .ret k d S)) :
    ∀ {env : EnvD}, I env → (items.all p = true → ∃ e', forGo items f env S = .nx e' S ∧ I e') ∧ (items.all p = false → forGo items f env S = .ret k d S) := by
  induction items with
  | nil => intro env h; exact ⟨fun _ => ⟨env, rfl, h⟩, fun z => (by cases z)⟩
  | cons z r ih =>
    intro env h
    have e1 : forGo (z :: r) f env S = (match f z env S with
      | .nx e s => forGo r f e s
      | .ct e s => forGo r f e s
      | o => o) := rfl
    obtain ⟨h1, h2⟩ := hs z List.mem_cons_self env h
    have hr := fun w hw => hs w (List.mem_cons_of_mem z hw)
    cases q : p z with
    | true =>
      obtain ⟨e2, h3, h4⟩ := h1 q
      have e3 : (z :: r).all p = r.all p := by rw [List.all_cons, q, Bool.true_and]
      rw [e3, e1, h3]
      exact ih hr h4
    | false =>
      have e3 : (z :: r).all p = false := by rw [List.all_cons, q, Bool.false_and]
      rw [e3, e1, h2 q]
      exact ⟨fun w => (by cases w), fun _ => rfl⟩
theorem ev_and' {q : Bool} (h : ev Γ a env S = .ok (k, .bl q, S, false)) (h2 : q = true → ev Γ b env S = .ok (.vl false, d, S, false)) : ev Γ (.and' a b) env S = .ok (.vl false, if q then d else .bl false, S, false) := by
  rw [ev, h]
  cases q with
  | false => rfl
  | true =>
    show (ev Γ b env S).bind _ = _
    rw [h2 rfl]; rfl
theorem ev_or' {q : Bool} (h : ev Γ a env S = .ok (k, .bl q, S, false)) (h2 : q = false → ev Γ b env S = .ok (.vl false, d, S, false)) : ev Γ (.or' a b) env S = .ok (.vl false, if q then .bl true else d, S, false) := by
  rw [ev, h]
  cases q with
  | true => rfl
  | false =>
    show (ev Γ b env S).bind _ = _
    rw [h2 rfl]; rfl
end
end Z

namespace Z
open PySem L2
section
variable {Γ : Ga} {env env' e' : EnvD} {S S1 S2 : Sto} {m m1 m2 : Bool} {k k0 k1 k2 : Kd} {d d0 d1 d2 d' : D} {a b c o : E} {es : List E} {as : List Vd} {i j : Int} {s : Z.St} {ss : List Z.St} {r : SO} {x y : Str}
theorem log_small {n k : Nat} (h : n < 2 ^ k) (hk : 0 < k) : n.log2 < k := by
  by_cases h0 : n = 0
  · subst h0; rw [show Nat.log2 0 = 0 by decide]; exact hk
  · exact (Nat.log2_lt h0).mpr h
theorem ev_mulB (h : ev Γ a env S = .ok (k, .int i, S, false)) (h2 : ev Γ b env S = .ok (k1, .int j, S, false)) (hi : i.natAbs < 2 ^ 400000) (hj : j.natAbs < 2 ^ 400000) : ev Γ (.op .mul [a, b]) env S = .ok (.vl false, .int (i * j), S, false) :=
  ev_op rfl (evs_2 h h2) rfl (by
    have l1 := log_small hi (by decide)
    have l2 := log_small hj (by decide)
    have e : opv .mul S [(k, .int i), (k1, .int j)] = if i.natAbs.log2 + j.natAbs.log2 < 1000000 then vT (.int (i * j)) else none := by
      cases k with
      | fr n l => cases n <;> rfl
      | _ => rfl
    rw [e, if_pos (by omega)]; rfl)
theorem ev_append {n : Nat} {bb : Bx} {xs : List D} (h : ev Γ o env S = .ok (k0, d0, S, false)) (hp : place S (k0, d0) = some (n, [], bb, .lst xs)) (h2 : ev Γ a env S = .ok (k, d, S, false)) (hd : der S (k, d) = some (k1, d1)) (hf : fits (bb.dp - 1) bb.ln (k1, d1) = true) (hx : xs.length < 100000) :
    ev Γ (.mut .append o [a]) env S = .ok (.vl false, .non, setB S n (.lst (xs ++ [d1])), true) := by
  rw [ev, h]
  show (ofO (place S (k0, d0))).bind _ = _
  rw [hp, ofO_some, R.bind_ok]
  show (evs Γ [a] env S).bind _ = _
  rw [evs_1 h2, R.bind_ok]
  show (ofO (place S (k0, d0))).bind _ = _
  rw [hp, ofO_some, R.bind_ok]
  have e1 : derL S [(k, d)] = some [(k1, d1)] := by
    show (der S (k, d)).bind _ = _
    rw [hd]; rfl
  have e2 : mutv .append (bb.dp - ([] : List Nat).length - 1) bb.ln (.lst xs) [(k1, d1)] = some (.lst (xs ++ [d1]), .vl false, .non) := by
    have hs : xs.length < sizeLine := by rw [sizeLine_eq]; omega
    show (if fits (bb.dp - 0 - 1) bb.ln (k1, d1) = true ∧ xs.length < sizeLine then some (D.lst (xs ++ [d1]), ((.vl false, .non) : Vd)) else none) = _
    rw [if_pos ⟨by rw [Nat.sub_zero]; exact hf, hs⟩]
  show (ofO ((derL S [(k, d)]).bind fun bs => mutv .append (bb.dp - ([] : List Nat).length - 1) bb.ln (.lst xs) bs)).bind _ = _
  rw [e1]
  show (ofO (mutv .append (bb.dp - ([] : List Nat).length - 1) bb.ln (.lst xs) [(k1, d1)])).bind _ = _
  rw [e2]; rfl
theorem ex1_ex (h : ev Γ a env S = .ok (k, d, S1, m)) : ex1 Γ (.ex a) env S = .nx env S1 := by
  rw [ex1, h]; rfl
theorem ex1_subL {n jn : Nat} {bb : Bx} {xs : List D} (h : ev Γ a env S = .ok (k, d, S, false)) (ht : isTn (k, d) = false) (h0 : ev Γ o env S = .ok (k0, d0, S, false)) (h2 : ev Γ b env S = .ok (k2, .int j, S, false)) (hp : place S (k0, d0) = some (n, [], bb, .lst xs))
    (hf : fits (bb.dp - 1) bb.ln (k, d) = true) (hj : ixN xs.length j = some jn) : ex1 Γ (.sub o b a) env S = .nx env (setB S n (.lst (xs.set jn d))) := by
  rw [ex1, h]
  show (if isTn (k, d) = true then _ else _) = _
  rw [ht, if_neg (by decide), h0]
  show (ev Γ b env S).so env _ = _
  rw [h2]
  show oso ((place S (k0, d0)).bind _) _ = _
  rw [hp]
  show oso ((setv (bb.dp - ([] : List Nat).length - 1) bb.ln (.lst xs) (.int j) (k, d)).map _) _ = _
  have e : setv (bb.dp - ([] : List Nat).length - 1) bb.ln (.lst xs) (.int j) (k, d) = some (.lst (xs.set jn d)) := by
    show (if fits (bb.dp - 0 - 1) bb.ln (k, d) = true then (ixN xs.length j).map (fun j => D.lst (xs.set j d)) else none) = _
    rw [if_pos (by rw [Nat.sub_zero]; exact hf), hj]; rfl
  rw [e]; rfl
theorem place_bx {n : Nat} {bb : Bx} (h : S[n]? = some (some bb)) (hl : bb.lk = false) (hd : 0 < bb.dp) : place S (k, .bx n) = some (n, [], bb, bb.d) := by
  have e : der S (k, .bx n) = some (.tn n [], bb.d) := by
    show (match S[n]? with
      | some (some b) => some ((.tn n [], b.d) : Vd)
      | _ => none) = _
    rw [h]
  show (match (generalizing := false) der S (k, .bx n) with
    | some (.tn n p, _) => (match (generalizing := false) S[n]? with
      | some (some b) => if b.lk then none else if p.length < b.dp then (pathGet b.d p).map fun x => (n, p, b, x) else none
      | _ => none)
    | _ => none) = _
  rw [e]
  show (match S[n]? with
    | some (some b) => if b.lk then none else if ([] : List Nat).length < b.dp then (pathGet b.d []).map fun x => (n, ([] : List Nat), b, x) else none
    | _ => none) = _
  rw [h]
  show (if bb.lk = true then none else if ([] : List Nat).length < bb.dp then (pathGet bb.d []).map fun x => (n, ([] : List Nat), bb, x) else none) = _
  rw [hl, if_neg (by decide), if_pos (show ([] : List Nat).length < bb.dp from hd)]; rfl
theorem setB_eq {n : Nat} {bb : Bx} (h : S[n]? = some (some bb)) : setB S n d = S.set n (some { bb with d := d }) := by
  unfold setB; rw [h]
theorem setB_at {n : Nat} {bb : Bx} (h : S[n]? = some (some bb)) : (setB S n d)[n]? = some (some { bb with d := d }) := by
  rw [setB_eq h, List.getElem?_set_self (List.getElem?_eq_some_iff.mp h).1]
theorem setB_ne {n n2 : Nat} (h : n ≠ n2) : (setB S n d)[n2]? = S[n2]? := by
  unfold setB
  split
  · rw [List.getElem?_set_ne h]
  · rfl
theorem evIt_seqB {n : Nat} {bb : Bx} {xs : List D} (h : ev Γ a env S = .ok (k, .bx n, S, false)) (hS : S[n]? = some (some bb)) (hb : bb.d = .lst xs) (hi : immL xs = true) : evIt Γ (.seq a) env S = .ok (xs.map fun d => (false, d), some n, S, false) := by
  rw [evIt, h, R.bind_ok]
  have e : der S (k, .bx n) = some (.tn n [], .lst xs) := by
    show (match S[n]? with
      | some (some b) => some ((.tn n [], b.d) : Vd)
      | _ => none) = _
    rw [hS, ← hb]
  show (ofO (der S (k, .bx n))).bind _ = _
  rw [e, ofO_some, R.bind_ok]
  have e2 : itemsOf S (.tn n []) xs = some (xs.map fun d => (false, d), some n) := by
    show (Z.settle S (.tn n []) xs).map _ = _
    have : Z.settle S (.tn n []) xs = some false := if_pos hi
    rw [this]; rfl
  show (ofO (itemsOf S (.tn n []) xs)).bind _ = _
  rw [e2]; rfl
theorem forGo_c {x : Bool × D} {xs : List (Bool × D)} {f : Bool × D → EnvD → Sto → SO} (h : f x env S = .nx e' S1) (h2 : forGo xs f e' S1 = r) : forGo (x :: xs) f env S = r := by
  show (match f x env S with
    | .nx e s => forGo xs f e s
    | .ct e s => forGo xs f e s
    | o => o) = _
  rw [h]; exact h2
theorem lcGo_ints {α : Type} {items : List α} {f : α → R (Option D)} {p : Int → Prop} (h : ∀ z ∈ items, ∃ t : Int, p t ∧ f z = .ok (some (.int t))) : ∃ xs : List Int, lcGo items f = .ok (xs.map D.int) ∧ xs.length = items.length ∧ ∀ t ∈ xs, p t := by
  induction items with
  | nil => exact ⟨[], rfl, rfl, by simp⟩
  | cons z r ih =>
    obtain ⟨t, hp, h2⟩ := h z List.mem_cons_self
    obtain ⟨xs, h3, h4, h6⟩ := ih fun w hw => h w (List.mem_cons_of_mem _ hw)
    refine ⟨t :: xs, ?_, by simp [h4], fun w hw => ?_⟩
    · show (f z).bind (fun o => (lcGo r f).bind fun ds => .ok (match o with
        | some d => d :: ds
        | none => ds)) = _
      rw [h2, h3]; rfl
    · rcases List.mem_cons.mp hw with e | e
      · rw [e]; exact hp
      · exact h6 w e
theorem imm_ints : ∀ xs : List Int, immL (xs.map D.int) = true
  | [] => rfl
  | _ :: xs => imm_ints xs
theorem imm_strs : ∀ xs : List Str, immL (xs.map D.str) = true
  | [] => rfl
  | _ :: xs => imm_strs xs
theorem settle_imm {xs : List D} (h : immL xs = true) : Z.settle S k xs = some false := if_pos h
theorem ev_list1 {l : Bool} {xs : List D} (h : ev Γ a env S = .ok (.vl l, .lst xs, S, false)) (hi : immL xs = true) : ev Γ (.op .list1 [a]) env S = .ok (.fr 1 false, .lst xs, S, false) :=
  ev_op rfl (evs_1 h) rfl (by
    show (Z.settle S (.vl l) xs).map (fun l => ((.fr 1 l, .lst xs) : Vd)) = _
    rw [settle_imm hi]; rfl)
end
end Z

namespace Y
open Z PySem L2
/-- a call in a region of its own: what it hands back -/
def fnr (P : Pg) (n f : Nat) (as : List (Bool × D)) : R (Kd × D) := match run P n f as [] with
  | .ok r => outP r
  | .exc c _ => .exc c []
  | .stuck => .stuck
def lk (o : Option (Option (Bool × D))) (S : Sto) : R Res := match o with
  | some (some (l, d)) => .ok (.vl l, d, S, false)
  | _ => .stuck
def lkb (n : Nat) (S : Sto) (o : Option (Option Bx)) : R Res := match o with
  | some (some b) => if b.lk then .stuck else .ok (.fr b.dp b.ln, b.d, S.set n none, true)
  | _ => .stuck
def lkm (o : Option (Option (Bool × D))) (S : Sto) : R Res := match o with
  | some (some (_, .bx n)) => lkb n S S[n]?
  | _ => .stuck
section
variable (Γ : Ga)
def evsD (a : Vd) (m1 : Bool) (r : R (List Vd × Sto × Bool)) : R (List Vd × Sto × Bool) := match r with
  | .ok (as, S2, m2) => if m2 && isTn a then .stuck else .ok (a :: as, S2, m1 || m2)
  | .exc c S => .exc c S
  | .stuck => .stuck
def evsC (es : List E) (env : EnvD) (r : R Res) : R (List Vd × Sto × Bool) := match r with
  | .ok (k, d, S1, m1) => evsD (k, d) m1 (evs Γ es env S1)
  | .exc c S => .exc c S
  | .stuck => .stuck
def opD (S1 : Sto) (m : Bool) (o : Option Vd) : R Res := match o with
  | some (k, d) => .ok (k, d, S1, m)
  | none => .stuck
def opC (o : Op) (S1 : Sto) (m : Bool) (bs : Option (List Vd)) : R Res := match bs with
  | some bs => opD S1 m (opv o S1 bs)
  | none => .stuck
def opA (o : Op) (S : Sto) (r : R (List Vd × Sto × Bool)) : R Res := match r with
  | .ok (as, S1, m) => if isMth o && (m || !tyHead o S as) then .stuck else opC o S1 m (derL S1 as)
  | .exc c S => if isMth o then .stuck else .exc c S
  | .stuck => .stuck
def derB (n : Nat) (o : Option (Option Bx)) : Option Vd := match o with
  | some (some b) => some (.tn n [], b.d)
  | _ => none
def derC (a : Option Vd) (as : Option (List Vd)) : Option (List Vd) := match a, as with
  | some a, some as => some (a :: as)
  | _, _ => none
def orM (m : Bool) (r : R Res) : R Res := match r with
  | .ok (k, d, S, m2) => .ok (k, d, S, m || m2)
  | .exc c S => .exc c S
  | .stuck => .stuck
def andB (b : E) (env : EnvD) (S1 : Sto) (m : Bool) (d : D) : R Res := match d with
  | .bl true => orM m (ev Γ b env S1)
  | .bl false => .ok (.vl false, .bl false, S1, m)
  | _ => .stuck
def andA (b : E) (env : EnvD) (r : R Res) : R Res := match r with
  | .ok (_, d, S1, m) => andB Γ b env S1 m d
  | .exc c S => .exc c S
  | .stuck => .stuck
def orB (b : E) (env : EnvD) (S1 : Sto) (m : Bool) (d : D) : R Res := match d with
  | .bl false => orM m (ev Γ b env S1)
  | .bl true => .ok (.vl false, .bl true, S1, m)
  | _ => .stuck
def orA (b : E) (env : EnvD) (r : R Res) : R Res := match r with
  | .ok (_, d, S1, m) => orB Γ b env S1 m d
  | .exc c S => .exc c S
  | .stuck => .stuck
def cpR (S : Sto) (m : Bool) (r : R (Kd × D)) : R Res := match r with
  | .ok (k, d) => .ok (k, d, S, m)
  | .exc c _ => .exc c S
  | .stuck => .stuck
def cpI (q : Bool) (S : Sto) (m : Bool) (r : R (Kd × D)) : R Res := if q then cpR S m r else .stuck
def callA (f : Nat) (r : R (List Vd × Sto × Bool)) : R Res := match r with
  | .ok (as, S1, m) => callP Γ f (as.map (argP S1)) S1 m
  | .exc c S => .exc c S
  | .stuck => .stuck
def icD (r : R (Kd × D × Sto)) : R Res := match r with
  | .ok (k, d, S') => (match asVal (k, d) with
    | some _ => .ok (k, d, S', true)
    | none => .stuck)
  | .exc c S => .exc c S
  | .stuck => .stuck
def icC (f : Nat) (S1 : Sto) (xs : Option (List (Bool × D))) : R Res := match xs with
  | some xs => icD (Γ.call f xs S1)
  | none => .stuck
def icA (f : Nat) (r : R (List Vd × Sto × Bool)) : R Res := match r with
  | .ok (as, S1, m) => icC Γ f S1 (argsI as)
  | .exc c S => .exc c S
  | .stuck => .stuck
def mtD (p : Bool) (me : Str) (es : List E) (env : EnvD) (S : Sto) (k0 : Kd) (d0 : D) (c : Nat) (o : Option Nat) : R Res := match o with
  | some f => (match evs Γ es env S with
    | .ok (as, S1, m) => if m then .stuck else if p then callP Γ f (((k0, d0) :: as).map (argP S)) S false else icC Γ f S (argsI ((k0, d0) :: as))
    | .exc c S => .exc c S
    | .stuck => .stuck)
  | none => .stuck
def mtC (p : Bool) (me : Str) (es : List E) (env : EnvD) (S : Sto) (k0 : Kd) (d0 : D) (o : Option Vd) : R Res := match o with
  | some (_, .obj c fs _) => if (posOf fs me).isSome then .stuck else mtD Γ p me es env S k0 d0 c (methOf Γ.cls c me)
  | _ => .stuck
def mtA (p : Bool) (me : Str) (es : List E) (env : EnvD) (S : Sto) (r : R Res) : R Res := match r with
  | .ok (k0, d0, _, m0) => if m0 then .stuck else mtC Γ p me es env S k0 d0 (der S (k0, d0))
  | _ => .stuck
def muE (S1 : Sto) (n : Nat) (p : List Nat) (b : Bx) (o : Option (D × Vd)) : R Res := match o with
  | some (d', k, r) => .ok (k, r, setB S1 n (pathSet b.d p d'), true)
  | none => .stuck
def muD (mo : Mo) (S1 : Sto) (n : Nat) (p : List Nat) (b : Bx) (d : D) (bs : Option (List Vd)) : R Res := match bs with
  | some bs => muE S1 n p b (mutv mo (b.dp - p.length - 1) b.ln d bs)
  | none => .stuck
def muC (mo : Mo) (d00 : D) (k0 : Kd) (d0 : D) (m : Bool) (as : List Vd) (S1 : Sto) (o : Option (Nat × List Nat × Bx × D)) : R Res := match o with
  | some (n, p, b, d) => if (m && !p.isEmpty) || !tyMut mo d00 d then .stuck else muD mo S1 n p b d (derL S1 as)
  | none => .stuck
def muB (mo : Mo) (d00 : D) (k0 : Kd) (d0 : D) (r : R (List Vd × Sto × Bool)) : R Res := match r with
  | .ok (as, S1, m) => muC mo d00 k0 d0 m as S1 (place S1 (k0, d0))
  | .exc c S => .exc c S
  | .stuck => .stuck
def muO (mo : Mo) (es : List E) (env : EnvD) (S : Sto) (k0 : Kd) (d0 : D) (o : Option (Nat × List Nat × Bx × D)) : R Res := match o with
  | some (_, _, _, d00) => if !tyMut mo d00 d00 then .stuck else muB mo d00 k0 d0 (evs Γ es env S)
  | none => .stuck
def muA (mo : Mo) (es : List E) (env : EnvD) (S : Sto) (r : R Res) : R Res := match r with
  | .ok (k0, d0, _, m0) => if m0 then .stuck else muO Γ mo es env S k0 d0 (place S (k0, d0))
  | _ => .stuck
def lcF (env : EnvD) (S : Sto) (bo : Option Nat) (dp : Nat) (ln : Bool) (tg : List Nat) (tp : Bool) (ifs : List Cd) (elt : E) (x : Bool × D) : R (Option D) :=
  (ofO (bindT env tg tp x)).bind fun env' => (evC Γ ifs env' (lockO S bo)).bind fun b => if b then (ev Γ elt env' (lockO S bo)).bind fun (k, d, _, m2) => if m2 || !fits dp ln (k, d) then .stuck else .ok (some d) else .ok none
def lcD (dp : Nat) (ln : Bool) (S : Sto) (r : R (List D)) : R Res := match r with
  | .ok ds => if ds.length ≤ sizeLine then .ok (.fr (dp + 1) ln, .lst ds, S, false) else .stuck
  | _ => .stuck
def lcA (dp : Nat) (ln : Bool) (tg : List Nat) (tp : Bool) (ifs : List Cd) (elt : E) (env : EnvD) (S : Sto) (r : R (List (Bool × D) × Option Nat × Sto × Bool)) : R Res := match r with
  | .ok (items, bo, S1, m) => if m then .stuck else lcD dp ln S (lcGo items (lcF Γ env S bo dp ln tg tp ifs elt))
  | .exc c S => .exc c S
  | .stuck => .stuck
def mkD (b : Bool) (n : Nat) (r : R (Kd × D × Sto)) : R Res := match r with
  | .ok (_, d0, S2) => if !opIsN d0 then .stuck else if b then .ok (.vl false, .bx n, S2, true) else match S2[n]? with
        | some (some b) => if b.lk then .stuck else .ok (.fr b.dp b.ln, b.d, S2.set n none, true)
        | _ => .stuck
  | .exc c S => .exc c S
  | .stuck => .stuck
def mkC (b : Bool) (c dp : Nat) (ln : Bool) (f : Nat) (S1 : Sto) (xs : Option (List (Bool × D))) : R Res := match xs with
  | some xs => mkD b S1.length (Γ.call f ((false, .bx S1.length) :: xs) (S1 ++ [some ⟨dp + 1, ln, false, .obj c [] []⟩]))
  | none => .stuck
def mkB (b : Bool) (c dp : Nat) (ln : Bool) (f : Nat) (r : R (List Vd × Sto × Bool)) : R Res := match r with
  | .ok (as, S1, _) => mkC Γ b c dp ln f S1 (argsI as)
  | .exc c S => .exc c S
  | .stuck => .stuck
def mkA (b : Bool) (c dp : Nat) (ln : Bool) (es : List E) (env : EnvD) (S : Sto) (o : Option Nat) : R Res := match o with
  | some f => mkB Γ b c dp ln f (evs Γ es env S)
  | none => .stuck
def tAnd (b : Cd) (env : EnvD) (r : R (Bool × Sto × Bool)) : R (Bool × Sto × Bool) := match r with
  | .ok (c, S1, m) => if c then (match tst Γ b env S1 with
    | .ok (c2, S2, m2) => .ok (c2, S2, m || m2)
    | .exc c S => .exc c S
    | .stuck => .stuck) else .ok (false, S1, m)
  | .exc c S => .exc c S
  | .stuck => .stuck
def tOr (b : Cd) (env : EnvD) (r : R (Bool × Sto × Bool)) : R (Bool × Sto × Bool) := match r with
  | .ok (c, S1, m) => if c then .ok (true, S1, m) else (match tst Γ b env S1 with
    | .ok (c2, S2, m2) => .ok (c2, S2, m || m2)
    | .exc c S => .exc c S
    | .stuck => .stuck)
  | .exc c S => .exc c S
  | .stuck => .stuck
def tNot (r : R (Bool × Sto × Bool)) : R (Bool × Sto × Bool) := match r with
  | .ok (c, S1, m) => .ok (!c, S1, m)
  | .exc c S => .exc c S
  | .stuck => .stuck
def tB2 (S1 : Sto) (m : Bool) (o : Option Bool) : R (Bool × Sto × Bool) := match o with
  | some b => .ok (b, S1, m)
  | none => .stuck
def tB (r : R Res) : R (Bool × Sto × Bool) := match r with
  | .ok (_, d, S1, m) => tB2 S1 m (blOf d)
  | .exc c S => .exc c S
  | .stuck => .stuck
def tT2 (o : Option Vd) : Option Bool := match o with
  | some a => truthD a.2
  | none => none
def tT (r : R Res) : R (Bool × Sto × Bool) := match r with
  | .ok (k, d, S1, m) => tB2 S1 m (tT2 (der S1 (k, d)))
  | .exc c S => .exc c S
  | .stuck => .stuck
def kS (ss : List Z.St) (r : SO) : SO := match r with
  | .nx e S1 => exs Γ ss e S1
  | o => o
def asgB (o : Option (EnvD × Sto)) : SO := match o with
  | some (e, S) => .nx e S
  | none => .stuck
def asgA (i : Nat) (b : Option (Nat × Bool)) (env : EnvD) (r : R Res) : SO := match r with
  | .ok (k, d, S1, _) => asgB (bindV env S1 i b (k, d))
  | .exc c S => .exc c env S
  | .stuck => .stuck
def bindN (env : EnvD) (S : Sto) (i : Nat) (d : D) (o : Option Bool) : Option (EnvD × Sto) := match o with
  | some l => some (env.set i (some (l, d)), S)
  | none => none
def unpB (S : Sto) (o : Option EnvD) : SO := match o with
  | some e => .nx e S
  | none => .stuck
def unpA (is : List Nat) (env : EnvD) (r : R Res) : SO := match r with
  | .ok (k, d, S1, _) => unpB S1 (unpTo env S1 is (k, d))
  | .exc c S => .exc c env S
  | .stuck => .stuck
def exA (env : EnvD) (r : R Res) : SO := match r with
  | .ok (_, _, S1, _) => .nx env S1
  | .exc c S => .exc c env S
  | .stuck => .stuck
def retA (env : EnvD) (r : R Res) : SO := match r with
  | .ok (k, d, S1, _) => if isTn (k, d) then .stuck else .ret k d S1
  | .exc c S => .exc c env S
  | .stuck => .stuck
def iteA (a b : List Z.St) (env : EnvD) (r : R (Bool × Sto × Bool)) : SO := match r with
  | .ok (t, S1, _) => if t then exs Γ a env S1 else exs Γ b env S1
  | .exc c S => .exc c env S
  | .stuck => .stuck
def forB (tg : List Nat) (tp : Bool) (b : List Z.St) (x : Bool × D) (e : EnvD) (s : Sto) : SO := oso (bindT e tg tp x) fun e' => exs Γ b e' s
def forK (f : Bool × D → EnvD → Sto → SO) (items : List (Bool × D)) (r : SO) : SO := match r with
  | .nx e s => forGo items f e s
  | .ct e s => forGo items f e s
  | o => o
def unlk (n : Nat) (l : Bool) (r : SO) : SO := r.mapS fun s => lockB s n l
def forA (tg : List Nat) (tp : Bool) (b : List Z.St) (env : EnvD) (r : R (List (Bool × D) × Option Nat × Sto × Bool)) : SO := match r with
  | .ok (items, bo, S1, _) => (match bo with
    | none => forGo items (forB Γ tg tp b) env S1
    | some n => unlk n (lockOf S1 n) (forGo items (forB Γ tg tp b) env (lockB S1 n true)))
  | .exc c S => .exc c env S
  | .stuck => .stuck
def itB (S1 : Sto) (m : Bool) (o : Option (List (Bool × D) × Option Nat)) : R (List (Bool × D) × Option Nat × Sto × Bool) := match o with
  | some r => .ok (r.1, r.2, S1, m)
  | none => .stuck
def itS2 (S1 : Sto) (m : Bool) (o : Option Vd) : R (List (Bool × D) × Option Nat × Sto × Bool) := match o with
  | some (k, .lst xs) => itB S1 m (itemsOf S1 k xs)
  | some (k, .tup xs) => itB S1 m (itemsOf S1 k xs)
  | some (_, .str z) => .ok (z.cps.toList.map fun c => (false, .str ⟨#[c]⟩), none, S1, m)
  | _ => .stuck
def itS (r : R Res) : R (List (Bool × D) × Option Nat × Sto × Bool) := match r with
  | .ok (k, d, S1, m) => itS2 S1 m (der S1 (k, d))
  | .exc c S => .exc c S
  | .stuck => .stuck
def enuO (o : Option (List (Bool × D) × Option Nat)) : Option (List (Bool × D) × Option Nat) := match o with
  | some r => some (enuL 0 r.1, r.2)
  | none => none
def revO (o : Option (List (Bool × D) × Option Nat)) : Option (List (Bool × D) × Option Nat) := match o with
  | some r => some (r.1.reverse, r.2)
  | none => none
def itE2 (S1 : Sto) (m : Bool) (o : Option Vd) : R (List (Bool × D) × Option Nat × Sto × Bool) := match o with
  | some (k, .lst xs) => itB S1 m (enuO (itemsOf S1 k xs))
  | _ => .stuck
def itE (r : R Res) : R (List (Bool × D) × Option Nat × Sto × Bool) := match r with
  | .ok (k, d, S1, m) => itE2 S1 m (der S1 (k, d))
  | .exc c S => .exc c S
  | .stuck => .stuck
def itV2 (S1 : Sto) (m : Bool) (o : Option Vd) : R (List (Bool × D) × Option Nat × Sto × Bool) := match o with
  | some (k, .lst xs) => itB S1 m (revO (itemsOf S1 k xs))
  | _ => .stuck
def itV (r : R Res) : R (List (Bool × D) × Option Nat × Sto × Bool) := match r with
  | .ok (k, d, S1, m) => itV2 S1 m (der S1 (k, d))
  | .exc c S => .exc c S
  | .stuck => .stuck
def itR (r : R (List Vd × Sto × Bool)) : R (List (Bool × D) × Option Nat × Sto × Bool) := match r with
  | .ok (as, S1, m) => (match as with
    | [(_, .int n)] => if -(2 ^ 62) ≤ n ∧ n < 2 ^ 62 then .ok ((List.range n.toNat).map fun (i : Nat) => (false, D.int i), none, S1, m) else .stuck
    | [(_, .int a), (_, .int b)] => if -(2 ^ 62) ≤ a ∧ a < 2 ^ 62 ∧ -(2 ^ 62) ≤ b ∧ b < 2 ^ 62 then .ok ((List.range (b - a).toNat).map fun (i : Nat) => (false, D.int (a + i)), none, S1, m) else .stuck
    | _ => .stuck)
  | .exc c S => .exc c S
  | .stuck => .stuck
def sbE (S1 : Sto) (env : EnvD) (n : Nat) (p : List Nat) (b : Bx) (o : Option D) : SO := match o with
  | some x' => .nx env (setB S1 n (pathSet b.d p x'))
  | none => .stuck
def sbD (S1 : Sto) (env : EnvD) (a : Vd) (d2 : D) (o : Option (Nat × List Nat × Bx × D)) : SO := match o with
  | some (n, p, b, x) => sbE S1 env n p b (setv (b.dp - p.length - 1) b.ln x d2 a)
  | none => .stuck
def sbC (S1 : Sto) (env : EnvD) (a a0 : Vd) (r : R Res) : SO := match r with
  | .ok (_, d2, _, m2) => if m2 then .stuck else sbD S1 env a d2 (place S1 a0)
  | .exc c S => .exc c env S
  | .stuck => .stuck
def sbB (i : E) (S1 : Sto) (env : EnvD) (a : Vd) (r : R Res) : SO := match r with
  | .ok (k0, d0, _, m0) => if m0 then .stuck else sbC S1 env a (k0, d0) (ev Γ i env S1)
  | .exc c S => .exc c env S
  | .stuck => .stuck
def sbA (o i : E) (env : EnvD) (r : R Res) : SO := match r with
  | .ok (k, d, S1, _) => if isTn (k, d) then .stuck else sbB Γ i S1 env (k, d) (ev Γ o env S1)
  | .exc c S => .exc c env S
  | .stuck => .stuck
def fdD (S1 : Sto) (env : EnvD) (f : Str) (a : Vd) (o : Option (Nat × List Nat × Bx × D)) : SO := match o with
  | some (n, p, b, x) => sbE S1 env n p b (setf (b.dp - p.length - 1) b.ln x f a)
  | none => .stuck
def fdB (S1 : Sto) (env : EnvD) (f : Str) (a : Vd) (r : R Res) : SO := match r with
  | .ok (k0, d0, _, m0) => if m0 then .stuck else fdD S1 env f a (place S1 (k0, d0))
  | .exc c S => .exc c env S
  | .stuck => .stuck
def fdA (o : E) (f : Str) (env : EnvD) (r : R Res) : SO := match r with
  | .ok (k, d, S1, _) => if isTn (k, d) then .stuck else fdB S1 env f (k, d) (ev Γ o env S1)
  | .exc c S => .exc c env S
  | .stuck => .stuck
def fzB (n i : Nat) (env : EnvD) (S : Sto) (o : Option (Option Bx)) : SO := match o with
  | some (some b) => if b.lk then .stuck else .nx (env.set i (some (b.ln, b.d))) (S.set n none)
  | _ => .stuck
def fzA (i : Nat) (env : EnvD) (S : Sto) (o : Option (Option (Bool × D))) : SO := match o with
  | some (some (_, .bx n)) => fzB n i env S S[n]?
  | _ => .nx env S
end
def plB (n : Nat) (p : List Nat) (b : Bx) (o : Option D) : Option (Nat × List Nat × Bx × D) := match o with
  | some x => some (n, p, b, x)
  | none => none
def plA (n : Nat) (p : List Nat) (o : Option (Option Bx)) : Option (Nat × List Nat × Bx × D) := match o with
  | some (some b) => if b.lk then none else if p.length < b.dp then plB n p b (pathGet b.d p) else none
  | _ => none
def fnA (r : SO) : R (Kd × D) := match r with
  | .nx _ _ => .ok (.vl false, .non)
  | .ret k d S' => outP (k, d, S')
  | .exc c _ _ => .exc c []
  | _ => .stuck
def rnA (r : SO) : R (Kd × D × Sto) := match r with
  | .nx _ S' => .ok (.vl false, .non, S')
  | .ret k d S' => .ok (k, d, S')
  | .exc c _ S' => .exc c S'
  | _ => .stuck
section
variable {Γ : Ga} {P : Pg} {env env' e' : EnvD} {S S1 S2 : Sto} {m m1 m2 t q : Bool} {k k0 k1 k2 : Kd} {d d0 d1 d2 : D} {a b c : E} {es : List E} {as bs : List Vd} {i j n f : Nat} {s : Z.St} {ss : List Z.St} {r : SO} {o : Op} {x y : Str} {l : Bool}
theorem ev_v : ev Γ (.v i false) env S = lk env[i]? S := by
  rw [ev]
  cases env[i]? with
  | none => rfl
  | some o => cases o <;> rfl
theorem ev_vm : ev Γ (.v i true) env S = lkm env[i]? S := by
  rw [ev]
  cases env[i]? with
  | none => rfl
  | some o => cases o with
    | none => rfl
    | some p =>
      obtain ⟨l, d⟩ := p
      cases d <;> rfl
theorem ev_k : ev Γ (.k d) env S = .ok (.vl false, d, S, false) := by rw [ev]
theorem ev_g : ev Γ (.g x d) env S = .ok (.vl false, d, S, false) := by rw [ev]
theorem evs_n : evs Γ [] env S = .ok ([], S, false) := by rw [evs]
theorem evs_c : evs Γ (a :: es) env S = evsC Γ es env (ev Γ a env S) := by
  rw [evs]
  cases ev Γ a env S with
  | ok r =>
    obtain ⟨k, d, S1, m1⟩ := r
    show (evs Γ es env S1).bind _ = evsD (k, d) m1 (evs Γ es env S1)
    cases evs Γ es env S1 <;> rfl
  | _ => rfl
theorem opC_eq : (ofO ((derL S1 as).bind fun bs => opv o S1 bs)).bind (fun (k, d) => .ok (k, d, S1, m)) = opC o S1 m (derL S1 as) := by
  unfold opC opD
  cases derL S1 as with
  | none => rfl
  | some bs =>
    show (ofO (opv o S1 bs)).bind _ = _
    dsimp only
    cases opv o S1 bs <;> rfl
theorem ev_op : ev Γ (.op o es) env S = opA o S (evs Γ es env S) := by
  rw [ev]
  unfold noxIf opA
  cases h : isMth o
  · cases evs Γ es env S with
    | ok r =>
      obtain ⟨as, S1, m⟩ := r
      exact opC_eq
    | _ => rfl
  · cases evs Γ es env S with
    | ok r =>
      obtain ⟨as, S1, m⟩ := r
      show (if (true && (m || !tyHead o S as)) = true then _ else _) = (if (true && (m || !tyHead o S as)) = true then _ else _)
      cases (true && (m || !tyHead o S as))
      · exact opC_eq
      · rfl
    | _ => rfl
theorem ev_and : ev Γ (.and' a b) env S = andA Γ b env (ev Γ a env S) := by
  rw [ev]
  cases ev Γ a env S with
  | ok r =>
    obtain ⟨k, d, S1, m⟩ := r
    cases d <;> try rfl
    rename_i q
    cases q
    · rfl
    · show (ev Γ b env S1).bind _ = orM m (ev Γ b env S1)
      cases ev Γ b env S1 <;> rfl
  | _ => rfl
theorem ev_or : ev Γ (.or' a b) env S = orA Γ b env (ev Γ a env S) := by
  rw [ev]
  cases ev Γ a env S with
  | ok r =>
    obtain ⟨k, d, S1, m⟩ := r
    cases d <;> try rfl
    rename_i q
    cases q
    · show (ev Γ b env S1).bind _ = orM m (ev Γ b env S1)
      cases ev Γ b env S1 <;> rfl
    · rfl
  | _ => rfl
theorem ev_callP : ev Γ (.call true f es) env S = callA Γ f (evs Γ es env S) := by
  rw [ev]
  cases evs Γ es env S <;> rfl
theorem icD_eq {xs : List (Bool × D)} : callI Γ f xs S1 = icD (Γ.call f xs S1) := by
  unfold callI icD
  cases Γ.call f xs S1 <;> rfl
theorem ev_callI : ev Γ (.call false f es) env S = icA Γ f (evs Γ es env S) := by
  rw [ev]
  cases evs Γ es env S with
  | ok r =>
    obtain ⟨as, S1, m⟩ := r
    show (ofO (argsI as)).bind _ = icC Γ f S1 (argsI as)
    cases argsI as with
    | none => rfl
    | some xs => exact icD_eq
  | _ => rfl
theorem ev_meth {p : Bool} : ev Γ (.meth p x a es) env S = mtA Γ p x es env S (ev Γ a env S) := by
  rw [ev]
  cases ev Γ a env S with
  | ok r =>
    obtain ⟨k0, d0, S0, m0⟩ := r
    show (if m0 = true then _ else _) = (if m0 = true then _ else _)
    cases m0
    · rw [if_neg (by decide), if_neg (by decide)]
      cases der S (k0, d0) with
      | none => rfl
      | some v =>
        obtain ⟨k, d⟩ := v
        cases d <;> try rfl
        rename_i c fs xs
        show (if (posOf fs x).isSome = true then _ else _) = (if (posOf fs x).isSome = true then _ else _)
        cases (posOf fs x).isSome
        · rw [if_neg (by decide), if_neg (by decide)]
          cases methOf Γ.cls c x with
          | none => rfl
          | some f =>
            show (evs Γ es env S).bind _ = mtD Γ p x es env S k0 d0 c (some f)
            unfold mtD
            cases evs Γ es env S with
            | ok r =>
              obtain ⟨as, S1, m⟩ := r
              show (if m = true then _ else _) = (if m = true then _ else _)
              cases m
              · cases p
                · show (ofO (argsI ((k0, d0) :: as))).bind _ = icC Γ f S (argsI ((k0, d0) :: as))
                  cases argsI ((k0, d0) :: as) with
                  | none => rfl
                  | some xs => exact icD_eq
                · rfl
              · rfl
            | _ => rfl
        · rfl
    · rfl
  | _ => rfl
theorem ev_mut {mo : Mo} : ev Γ (.mut mo a es) env S = muA Γ mo es env S (ev Γ a env S) := by
  rw [ev]
  cases ev Γ a env S with
  | ok r =>
    obtain ⟨k0, d0, S0, m0⟩ := r
    show (if m0 = true then _ else _) = (if m0 = true then _ else _)
    cases m0
    · rw [if_neg (by decide), if_neg (by decide)]
      cases place S (k0, d0) with
      | none => rfl
      | some v =>
        obtain ⟨n, p, b, d00⟩ := v
        show (if (!tyMut mo d00 d00) = true then _ else _) = (if (!tyMut mo d00 d00) = true then _ else _)
        cases (!tyMut mo d00 d00)
        · rw [if_neg (by decide), if_neg (by decide)]
          cases evs Γ es env S with
          | ok r =>
            obtain ⟨as, S1, m⟩ := r
            show (ofO (place S1 (k0, d0))).bind _ = muC mo d00 k0 d0 m as S1 (place S1 (k0, d0))
            cases place S1 (k0, d0) with
            | none => rfl
            | some v =>
              obtain ⟨n, p, b, d⟩ := v
              show (if ((m && !p.isEmpty) || !tyMut mo d00 d) = true then _ else _) = (if ((m && !p.isEmpty) || !tyMut mo d00 d) = true then _ else _)
              cases ((m && !p.isEmpty) || !tyMut mo d00 d)
              · rw [if_neg (by decide), if_neg (by decide)]
                show _ = muD mo S1 n p b d (derL S1 as)
                cases derL S1 as with
                | none => rfl
                | some bs =>
                  show (ofO (mutv mo (b.dp - p.length - 1) b.ln d bs)).bind _ = muE S1 n p b (mutv mo (b.dp - p.length - 1) b.ln d bs)
                  cases mutv mo (b.dp - p.length - 1) b.ln d bs <;> rfl
              · rfl
          | _ => rfl
        · rfl
    · rfl
  | _ => rfl
theorem ev_lc {dp : Nat} {ln : Bool} {tg : List Nat} {tp : Bool} {it : Z.It} {ifs : List Cd} : ev Γ (.lc dp ln tg tp it ifs a) env S = lcA Γ dp ln tg tp ifs a env S (evIt Γ it env S) := by
  rw [ev]
  cases evIt Γ it env S with
  | ok r =>
    obtain ⟨items, bo, S1, m⟩ := r
    show (if m = true then _ else _) = (if m = true then _ else _)
    cases m
    · rw [if_neg (by decide), if_neg (by decide)]
      show (lcGo items (lcF Γ env S bo dp ln tg tp ifs a)).nox.bind _ = lcD dp ln S (lcGo items (lcF Γ env S bo dp ln tg tp ifs a))
      cases lcGo items (lcF Γ env S bo dp ln tg tp ifs a) <;> rfl
    · rfl
  | _ => rfl
theorem ev_mk {bxd : Bool} {c dp : Nat} {ln : Bool} : ev Γ (.mk bxd c dp ln es) env S = mkA Γ bxd c dp ln es env S (methOf Γ.cls c "__init__") := by
  rw [ev]
  cases methOf Γ.cls c "__init__" with
  | none => rfl
  | some f =>
    show (evs Γ es env S).bind _ = mkB Γ bxd c dp ln f (evs Γ es env S)
    cases evs Γ es env S with
    | ok r =>
      obtain ⟨as, S1, m⟩ := r
      show (ofO (argsI as)).bind _ = mkC Γ bxd c dp ln f S1 (argsI as)
      cases argsI as with
      | none => rfl
      | some xs =>
        show (Γ.call f ((false, .bx S1.length) :: xs) (S1 ++ [some ⟨dp + 1, ln, false, .obj c [] []⟩])).bind _ = mkD bxd S1.length (Γ.call f ((false, .bx S1.length) :: xs) (S1 ++ [some ⟨dp + 1, ln, false, .obj c [] []⟩]))
        cases Γ.call f ((false, .bx S1.length) :: xs) (S1 ++ [some ⟨dp + 1, ln, false, .obj c [] []⟩]) <;> rfl
    | _ => rfl
theorem evIt_seq : evIt Γ (.seq a) env S = itS (ev Γ a env S) := by
  rw [evIt]
  cases ev Γ a env S with
  | ok r =>
    obtain ⟨k, d, S1, m⟩ := r
    show (ofO (der S1 (k, d))).bind _ = itS2 S1 m (der S1 (k, d))
    cases der S1 (k, d) with
    | none => rfl
    | some v =>
      obtain ⟨k, d⟩ := v
      cases d <;> try rfl
      all_goals
        rename_i xs
        show (ofO (itemsOf S1 k xs)).bind _ = itB S1 m (itemsOf S1 k xs)
        cases itemsOf S1 k xs <;> rfl
  | _ => rfl
theorem evIt_rng : evIt Γ (.rng es) env S = itR (evs Γ es env S) := by
  rw [evIt]
  cases evs Γ es env S <;> rfl
theorem evIt_enu : evIt Γ (.enu a) env S = itE (ev Γ a env S) := by
  rw [evIt]
  cases ev Γ a env S with
  | ok r =>
    obtain ⟨k, d, S1, m⟩ := r
    show (ofO (der S1 (k, d))).bind _ = itE2 S1 m (der S1 (k, d))
    cases der S1 (k, d) with
    | none => rfl
    | some v =>
      obtain ⟨k, d⟩ := v
      cases d <;> try rfl
      rename_i xs
      show (ofO (itemsOf S1 k xs)).bind _ = itB S1 m (enuO (itemsOf S1 k xs))
      cases itemsOf S1 k xs <;> rfl
  | _ => rfl
theorem evIt_rev : evIt Γ (.rev a) env S = itV (ev Γ a env S) := by
  rw [evIt]
  cases ev Γ a env S with
  | ok r =>
    obtain ⟨k, d, S1, m⟩ := r
    show (ofO (der S1 (k, d))).bind _ = itV2 S1 m (der S1 (k, d))
    cases der S1 (k, d) with
    | none => rfl
    | some v =>
      obtain ⟨k, d⟩ := v
      cases d <;> try rfl
      rename_i xs
      show (ofO (itemsOf S1 k xs)).bind _ = itB S1 m (revO (itemsOf S1 k xs))
      cases itemsOf S1 k xs <;> rfl
  | _ => rfl
theorem tst_and {x y : Cd} : tst Γ (.and' x y) env S = tAnd Γ y env (tst Γ x env S) := by
  rw [tst]
  cases tst Γ x env S with
  | ok r =>
    obtain ⟨c, S1, m⟩ := r
    show (if c = true then _ else _) = (if c = true then _ else _)
    cases c
    · rfl
    · show (tst Γ y env S1).bind _ = _
      cases tst Γ y env S1 <;> rfl
  | _ => rfl
theorem tst_or {x y : Cd} : tst Γ (.or' x y) env S = tOr Γ y env (tst Γ x env S) := by
  rw [tst]
  cases tst Γ x env S with
  | ok r =>
    obtain ⟨c, S1, m⟩ := r
    show (if c = true then _ else _) = (if c = true then _ else _)
    cases c
    · show (tst Γ y env S1).bind _ = _
      cases tst Γ y env S1 <;> rfl
    · rfl
  | _ => rfl
theorem tst_not {x : Cd} : tst Γ (.not' x) env S = tNot (tst Γ x env S) := by
  rw [tst]
  cases tst Γ x env S <;> rfl
theorem tst_b : tst Γ (.b a) env S = tB (ev Γ a env S) := by
  rw [tst]
  cases ev Γ a env S with
  | ok r =>
    obtain ⟨k, d, S1, m⟩ := r
    show (ofO (blOf d)).bind _ = tB2 S1 m (blOf d)
    cases blOf d <;> rfl
  | _ => rfl
theorem tst_t : tst Γ (.t a) env S = tT (ev Γ a env S) := by
  rw [tst]
  cases ev Γ a env S with
  | ok r =>
    obtain ⟨k, d, S1, m⟩ := r
    show (ofO ((der S1 (k, d)).bind fun a => truthD a.2)).bind _ = tB2 S1 m (tT2 (der S1 (k, d)))
    cases der S1 (k, d) with
    | none => rfl
    | some v =>
      show (ofO (truthD v.2)).bind _ = tB2 S1 m (truthD v.2)
      cases truthD v.2 <;> rfl
  | _ => rfl
theorem exs_n : exs Γ [] env S = .nx env S := by rw [exs]
theorem exs_c : exs Γ (s :: ss) env S = kS Γ ss (ex1 Γ s env S) := by
  rw [exs]
  cases ex1 Γ s env S <;> rfl
theorem ex_asg {bo : Option (Nat × Bool)} : ex1 Γ (.asg i bo a) env S = asgA i bo env (ev Γ a env S) := by
  rw [ex1]
  cases ev Γ a env S with
  | ok r =>
    obtain ⟨k, d, S1, m⟩ := r
    show oso (bindV env S1 i bo (k, d)) _ = asgB (bindV env S1 i bo (k, d))
    cases bindV env S1 i bo (k, d) <;> rfl
  | _ => rfl
theorem ex_unp {is : List Nat} : ex1 Γ (.unp is a) env S = unpA is env (ev Γ a env S) := by
  rw [ex1]
  cases ev Γ a env S with
  | ok r =>
    obtain ⟨k, d, S1, m⟩ := r
    show oso (unpTo env S1 is (k, d)) _ = unpB S1 (unpTo env S1 is (k, d))
    cases unpTo env S1 is (k, d) <;> rfl
  | _ => rfl
theorem ex_ex : ex1 Γ (.ex a) env S = exA env (ev Γ a env S) := by
  rw [ex1]
  cases ev Γ a env S <;> rfl
theorem ex_ret : ex1 Γ (.ret a) env S = retA env (ev Γ a env S) := by
  rw [ex1]
  cases ev Γ a env S <;> rfl
theorem ex_retN : ex1 Γ .retN env S = .ret (.vl false) .non S := by rw [ex1]
theorem ex_raise : ex1 Γ (.raise n) env S = .exc n env S := by rw [ex1]
theorem ex_pass : ex1 Γ .pass env S = .nx env S := by rw [ex1]
theorem ex_cont : ex1 Γ .cont env S = .ct env S := by rw [ex1]
theorem ex_ite {x : Cd} {u v : List Z.St} : ex1 Γ (.ite x u v) env S = iteA Γ u v env (tst Γ x env S) := by
  rw [ex1]
  cases tst Γ x env S <;> rfl
theorem ex_for {tg : List Nat} {tp : Bool} {it : Z.It} {u : List Z.St} : ex1 Γ (.for' tg tp it u) env S = forA Γ tg tp u env (evIt Γ it env S) := by
  rw [ex1]
  cases evIt Γ it env S with
  | ok r =>
    obtain ⟨items, bo, S1, m⟩ := r
    cases bo <;> rfl
  | _ => rfl
theorem ex_sub {o' i' : E} : ex1 Γ (.sub o' i' a) env S = sbA Γ o' i' env (ev Γ a env S) := by
  rw [ex1]
  cases ev Γ a env S with
  | ok r =>
    obtain ⟨k, d, S1, m⟩ := r
    show (if isTn (k, d) = true then _ else _) = (if isTn (k, d) = true then _ else _)
    cases isTn (k, d)
    · rw [if_neg (by decide), if_neg (by decide)]
      show (ev Γ o' env S1).so env _ = sbB Γ i' S1 env (k, d) (ev Γ o' env S1)
      cases ev Γ o' env S1 with
      | ok r =>
        obtain ⟨k0, d0, S0, m0⟩ := r
        show (if m0 = true then _ else _) = (if m0 = true then _ else _)
        cases m0
        · rw [if_neg (by decide), if_neg (by decide)]
          show (ev Γ i' env S1).so env _ = sbC S1 env (k, d) (k0, d0) (ev Γ i' env S1)
          cases ev Γ i' env S1 with
          | ok r =>
            obtain ⟨k2, d2, S2, m2⟩ := r
            show (if m2 = true then _ else _) = (if m2 = true then _ else _)
            cases m2
            · rw [if_neg (by decide), if_neg (by decide)]
              show oso ((place S1 (k0, d0)).bind _) _ = sbD S1 env (k, d) d2 (place S1 (k0, d0))
              cases place S1 (k0, d0) with
              | none => rfl
              | some v =>
                obtain ⟨n, p, b, x⟩ := v
                show oso ((setv (b.dp - p.length - 1) b.ln x d2 (k, d)).map _) _ = sbE S1 env n p b (setv (b.dp - p.length - 1) b.ln x d2 (k, d))
                cases setv (b.dp - p.length - 1) b.ln x d2 (k, d) <;> rfl
            · rfl
          | _ => rfl
        · rfl
      | _ => rfl
    · rfl
  | _ => rfl
theorem ex_fld {o' : E} : ex1 Γ (.fld o' x a) env S = fdA Γ o' x env (ev Γ a env S) := by
  rw [ex1]
  cases ev Γ a env S with
  | ok r =>
    obtain ⟨k, d, S1, m⟩ := r
    show (if isTn (k, d) = true then _ else _) = (if isTn (k, d) = true then _ else _)
    cases isTn (k, d)
    · rw [if_neg (by decide), if_neg (by decide)]
      show (ev Γ o' env S1).so env _ = fdB S1 env x (k, d) (ev Γ o' env S1)
      cases ev Γ o' env S1 with
      | ok r =>
        obtain ⟨k0, d0, S0, m0⟩ := r
        show (if m0 = true then _ else _) = (if m0 = true then _ else _)
        cases m0
        · rw [if_neg (by decide), if_neg (by decide)]
          show oso ((place S1 (k0, d0)).bind _) _ = fdD S1 env x (k, d) (place S1 (k0, d0))
          cases place S1 (k0, d0) with
          | none => rfl
          | some v =>
            obtain ⟨n, p, b, y⟩ := v
            show oso ((setf (b.dp - p.length - 1) b.ln y x (k, d)).map _) _ = sbE S1 env n p b (setf (b.dp - p.length - 1) b.ln y x (k, d))
            cases setf (b.dp - p.length - 1) b.ln y x (k, d) <;> rfl
        · rfl
      | _ => rfl
    · rfl
  | _ => rfl
theorem ex_fz : ex1 Γ (.fz i) env S = fzA i env S env[i]? := by
  rw [ex1]
  cases env[i]? with
  | none => rfl
  | some o => cases o with
    | none => rfl
    | some p =>
      obtain ⟨l, d⟩ := p
      cases d <;> rfl
theorem forGo_n {g : Bool × D → EnvD → Sto → SO} : forGo [] g env S = .nx env S := rfl
theorem forGo_c {g : Bool × D → EnvD → Sto → SO} {z : Bool × D} {zs : List (Bool × D)} : forGo (z :: zs) g env S = forK g zs (g z env S) := by
  show (match g z env S with
    | .nx e s => forGo zs g e s
    | .ct e s => forGo zs g e s
    | o => o) = _
  cases g z env S <;> rfl
theorem forB1 {u : List Z.St} {z : Bool × D} : forB Γ [i] false u z env S = exs Γ u (env.set i (some z)) S := rfl
theorem forB2 {u : List Z.St} : forB Γ [i, j] true u (l, .tup [d, d1]) env S = exs Γ u ((env.set i (some (if d.imm then false else l, d))).set j (some (if d1.imm then false else l, d1))) S := rfl
theorem forB3 {u : List Z.St} : forB Γ [i, j, n] true u (l, .tup [d, d1, d2]) env S = exs Γ u (((env.set i (some (if d.imm then false else l, d))).set j (some (if d1.imm then false else l, d1))).set n (some (if d2.imm then false else l, d2))) S := rfl
theorem outP_ne {r : Kd × D × Sto} {c : Nat} {s : Sto} : outP r ≠ .exc c s := by
  obtain ⟨k, d, z⟩ := r
  unfold outP
  dsimp only
  intro h
  cases h1 : d.noBx with
  | false => rw [h1] at h; cases h
  | true =>
    rw [h1, if_pos rfl] at h
    cases h2 : d.imm with
    | true => rw [h2] at h; cases h
    | false =>
      rw [h2, if_neg (by decide)] at h
      split at h <;> cases h
theorem callP_eq {xs : List (Bool × D)} : callP (gam P n) f xs S m = cpI (xs.all fun a => a.2.noBx) S m (fnr P n f xs) := by
  unfold callP cpI fnr
  cases xs.all fun a => a.2.noBx
  · rfl
  · rw [if_pos rfl, if_pos rfl]
    show (match run P n f xs [] with
      | .ok r => (outP r).bind fun (k, d) => .ok (k, d, S, m)
      | .exc c _ => .exc c S
      | .stuck => .stuck) = _
    cases run P n f xs [] with
    | ok r =>
      show (outP r).bind _ = cpR S m (outP r)
      cases h : outP r with
      | ok z => rfl
      | exc c s => exact absurd h outP_ne
      | stuck => rfl
    | _ => rfl
theorem fnr_eq {fi : FnI} (hf : P.fns[f]? = some fi) {xs : List (Bool × D)} (h : xs.length = fi.np) (hh : fi.hot = false := by rfl) : fnr P (n + 1) f xs = fnA (exs (gam P n) fi.body (xs.map some ++ List.replicate (fi.nl - fi.np) none) []) := by
  unfold fnr
  rw [run_eq hf hh h]
  cases exs (gam P n) fi.body (xs.map some ++ List.replicate (fi.nl - fi.np) none) [] <;> rfl
theorem run_eq' {fi : FnI} (hf : P.fns[f]? = some fi) {xs : List (Bool × D)} (h : xs.length = fi.np) (hh : fi.hot = false := by rfl) : (gam P (n + 1)).call f xs S = rnA (exs (gam P n) fi.body (xs.map some ++ List.replicate (fi.nl - fi.np) none) S) := by
  show run P (n + 1) f xs S = _
  rw [run_eq hf hh h]
  cases exs (gam P n) fi.body (xs.map some ++ List.replicate (fi.nl - fi.np) none) S <;> rfl
theorem place_bx : place S (k, .bx n) = plA n [] S[n]? := by
  unfold place
  show (match (generalizing := false) (match S[n]? with
      | some (some b) => some ((.tn n [], b.d) : Vd)
      | _ => none) with
    | some (.tn n p, _) => (match (generalizing := false) S[n]? with
      | some (some b) => if b.lk then none else if p.length < b.dp then (pathGet b.d p).map fun x => (n, p, b, x) else none
      | _ => none)
    | _ => none) = _
  cases h : S[n]? with
  | none => rfl
  | some o =>
    cases o with
    | none => rfl
    | some b =>
      show (match S[n]? with
        | some (some b) => if b.lk then none else if ([] : List Nat).length < b.dp then (pathGet b.d []).map fun x => (n, ([] : List Nat), b, x) else none
        | _ => none) = _
      rw [h]
      rfl
theorem place_tn {p : List Nat} (hd : isBx d = false) : place S (.tn n p, d) = plA n p S[n]? := by
  have e : der S (.tn n p, d) = some (.tn n p, d) := by
    cases d <;> first
      | rfl
      | cases hd
  unfold place
  show (match (generalizing := false) der S (.tn n p, d) with
    | some (.tn n p, _) => (match (generalizing := false) S[n]? with
      | some (some b) => if b.lk then none else if p.length < b.dp then (pathGet b.d p).map fun x => (n, p, b, x) else none
      | _ => none)
    | _ => none) = _
  rw [e]
  show (match S[n]? with
        | some (some b) => if b.lk then none else if p.length < b.dp then (pathGet b.d p).map fun x => (n, p, b, x) else none
        | _ => none) = _
  cases h : S[n]? with
  | none => rfl
  | some o =>
    cases o with
    | none => rfl
    | some b =>
      unfold plA plB
      dsimp only
      cases b.lk
      · show (if p.length < b.dp then _ else none) = (if p.length < b.dp then _ else none)
        by_cases q : p.length < b.dp
        · rw [if_pos q, if_pos q]
          cases pathGet b.d p <;> rfl
        · rw [if_neg q, if_neg q]
      · rfl
end
end Y

namespace Y
open Z PySem L2
theorem isMth_add : isMth .add = false := Eq.trans rfl rfl
theorem isMth_sub : isMth .sub = false := Eq.trans rfl rfl
theorem isMth_mul : isMth .mul = false := Eq.trans rfl rfl
theorem isMth_fdiv : isMth .fdiv = false := Eq.trans rfl rfl
theorem isMth_mod : isMth .mod = false := Eq.trans rfl rfl
theorem isMth_pow : isMth .pow = false := Eq.trans rfl rfl
theorem isMth_shl : isMth .shl = false := Eq.trans rfl rfl
theorem isMth_shr : isMth .shr = false := Eq.trans rfl rfl
theorem isMth_band : isMth .band = false := Eq.trans rfl rfl
theorem isMth_bor : isMth .bor = false := Eq.trans rfl rfl
theorem isMth_neg : isMth .neg = false := Eq.trans rfl rfl
theorem isMth_notB : isMth .notB = false := Eq.trans rfl rfl
theorem isMth_eq : isMth .eq = false := Eq.trans rfl rfl
theorem isMth_ne : isMth .ne = false := Eq.trans rfl rfl
theorem isMth_lt : isMth .lt = false := Eq.trans rfl rfl
theorem isMth_le : isMth .le = false := Eq.trans rfl rfl
theorem isMth_gt : isMth .gt = false := Eq.trans rfl rfl
theorem isMth_ge : isMth .ge = false := Eq.trans rfl rfl
theorem isMth_isN : isMth .isN = false := Eq.trans rfl rfl
theorem isMth_notN : isMth .notN = false := Eq.trans rfl rfl
theorem isMth_inn : isMth .inn = false := Eq.trans rfl rfl
theorem isMth_nin : isMth .nin = false := Eq.trans rfl rfl
theorem isMth_idx : isMth .idx = false := Eq.trans rfl rfl
theorem isMth_len : isMth .len = false := Eq.trans rfl rfl
theorem isMth_abs : isMth .abs = false := Eq.trans rfl rfl
theorem isMth_int1 : isMth .int1 = false := Eq.trans rfl rfl
theorem isMth_str1 : isMth .str1 = false := Eq.trans rfl rfl
theorem isMth_min2 : isMth .min2 = false := Eq.trans rfl rfl
theorem isMth_max2 : isMth .max2 = false := Eq.trans rfl rfl
theorem isMth_minL : isMth .minL = false := Eq.trans rfl rfl
theorem isMth_maxL : isMth .maxL = false := Eq.trans rfl rfl
theorem isMth_sumL : isMth .sumL = false := Eq.trans rfl rfl
theorem isMth_anyL : isMth .anyL = false := Eq.trans rfl rfl
theorem isMth_list1 : isMth .list1 = false := Eq.trans rfl rfl
theorem isMth_tuple1 : isMth .tuple1 = false := Eq.trans rfl rfl
theorem isMth_sorted1 : isMth .sorted1 = false := Eq.trans rfl rfl
theorem isMth_dict1 : isMth .dict1 = false := Eq.trans rfl rfl
theorem isMth_emK : isMth .emK = false := Eq.trans rfl rfl
theorem isMth_emT : isMth .emT = false := Eq.trans rfl rfl
theorem isMth_join : isMth .join = true := Eq.trans rfl rfl
theorem isMth_split : isMth .split = true := Eq.trans rfl rfl
theorem isMth_find2 : isMth .find2 = true := Eq.trans rfl rfl
theorem isMth_find1 : isMth .find1 = true := Eq.trans rfl rfl
theorem isMth_index : isMth .index = true := Eq.trans rfl rfl
theorem isMth_count : isMth .count = true := Eq.trans rfl rfl
theorem isMth_get1 : isMth .get1 = true := Eq.trans rfl rfl
theorem isMth_get2 : isMth .get2 = true := Eq.trans rfl rfl
theorem isMth_sl {a b : Bool} : isMth (.sl a b) = false := Eq.trans rfl rfl
theorem isMth_isI {n : Nat} : isMth (.isI n) = false := Eq.trans rfl rfl
theorem isMth_tupD {n : Nat} {a : Bool} : isMth (.tupD n a) = false := Eq.trans rfl rfl
theorem isMth_lstD {n : Nat} {a : Bool} : isMth (.lstD n a) = false := Eq.trans rfl rfl
theorem isMth_fld {x : PySem.Str} : isMth (.fld x) = false := Eq.trans rfl rfl
section
variable {Γ : Ga} {P : Pg} {env env' e' : EnvD} {S S1 S2 : Sto} {m m1 m2 t q ln l lo hi tp : Bool} {k k0 k1 k2 : Kd} {d d0 d1 d2 d3 d4 : D} {a b c : E} {es : List E} {as bs : List Vd} {h i j n f dp c' : Nat} {s : Z.St} {ss u v : List Z.St} {r : SO} {o : Op} {x y z : Str} {A B : Vd} {bx : Bx} {I J N : Int} {xs ys : List D} {p : List Nat} {fs : List Str} {ks : List Key} {kts : List (List Key)} {me : Str} {mo : Mo}
theorem lk_s : lk (some (some (l, d))) S = .ok (.vl l, d, S, false) := rfl
theorem lkm_s : lkm (some (some (l, .bx n))) S = lkb n S S[n]? := rfl
theorem lkb_s : lkb n S (some (some ⟨dp, ln, false, d⟩)) = .ok (.fr dp ln, d, S.set n none, true) := rfl
theorem evsC_ok : evsC Γ es env (.ok (k, d, S1, m1)) = evsD (k, d) m1 (evs Γ es env S1) := rfl
theorem evsC_ex : evsC Γ es env (.exc n S1) = .exc n S1 := rfl
theorem evsD_f : evsD A m1 (.ok (as, S2, false)) = .ok (A :: as, S2, m1) := by cases m1 <;> rfl
theorem evsD_v : evsD (.vl l, d) m1 (.ok (as, S2, true)) = .ok ((.vl l, d) :: as, S2, true) := by cases m1 <;> rfl
theorem evsD_r : evsD (.fr n l, d) m1 (.ok (as, S2, true)) = .ok ((.fr n l, d) :: as, S2, true) := by cases m1 <;> rfl
theorem evsD_ex : evsD A m1 (.exc n S1) = .exc n S1 := rfl
theorem opA_ok (h : isMth o = false) : opA o S (.ok (as, S1, m)) = opC o S1 m (derL S1 as) := by
  show (if (isMth o && (m || !tyHead o S as)) = true then _ else _) = _
  rw [h]; rfl
def tyH (o : Op) (a : Option Vd) : Bool := match o, a with
    | .join, some (_, .str _) => true
    | .split, some (_, .str _) => true
    | .find1, some (_, .str _) => true
    | .find2, some (_, .str _) => true
    | .index, some (_, .lst _) => true
    | .count, some (_, .lst _) => true
    | .get1, some (_, .dK _ _) => true
    | .get1, some (_, .dT _ _) => true
    | .get2, some (_, .dK _ _) => true
    | .get2, some (_, .dT _ _) => true
    | _, _ => false
theorem tyH_0 {k : Kd} {x : PySem.Str} : tyH .join (some (k, .str x)) = true := Eq.trans rfl rfl
theorem tyH_1 {k : Kd} {x : PySem.Str} : tyH .split (some (k, .str x)) = true := Eq.trans rfl rfl
theorem tyH_2 {k : Kd} {x : PySem.Str} : tyH .find1 (some (k, .str x)) = true := Eq.trans rfl rfl
theorem tyH_3 {k : Kd} {x : PySem.Str} : tyH .find2 (some (k, .str x)) = true := Eq.trans rfl rfl
theorem tyH_4 {k : Kd} {xs : List D} : tyH .index (some (k, .lst xs)) = true := Eq.trans rfl rfl
theorem tyH_5 {k : Kd} {xs : List D} : tyH .count (some (k, .lst xs)) = true := Eq.trans rfl rfl
theorem tyH_6 {k : Kd} {xs : List D} {ks : List Key} : tyH .get1 (some (k, .dK ks xs)) = true := Eq.trans rfl rfl
theorem tyH_7 {k : Kd} {xs : List D} {kts : List (List Key)} : tyH .get1 (some (k, .dT kts xs)) = true := Eq.trans rfl rfl
theorem tyH_8 {k : Kd} {xs : List D} {ks : List Key} : tyH .get2 (some (k, .dK ks xs)) = true := Eq.trans rfl rfl
theorem tyH_9 {k : Kd} {xs : List D} {kts : List (List Key)} : tyH .get2 (some (k, .dT kts xs)) = true := Eq.trans rfl rfl
def opM (q : Bool) (r : Z.R Res) : Z.R Res := if q then r else .stuck
theorem opA_m (h : isMth o = true) : opA o S (.ok (A :: as, S1, false)) = opM (tyH o (der S A)) (opC o S1 false (derL S1 (A :: as))) := by
  show (if (isMth o && (false || !tyHead o S (A :: as))) = true then _ else _) = _
  rw [h]
  have e : tyHead o S (A :: as) = tyH o (der S A) := rfl
  rw [e]
  cases tyH o (der S A) <;> rfl
theorem opM_t {r : Z.R Res} : opM true r = r := rfl
theorem opA_ex (h : isMth o = false) : opA o S (.exc n S1) = .exc n S1 := by
  show (if isMth o = true then _ else _) = _
  rw [h]; rfl
theorem opC_s : opC o S1 m (some bs) = opD S1 m (opv o S1 bs) := rfl
theorem opD_s : opD S1 m (some (k, d)) = .ok (k, d, S1, m) := rfl
theorem derL_n : derL S [] = some [] := rfl
theorem derL_c : derL S (A :: as) = derC (der S A) (derL S as) := by
  show (der S A).bind (fun b => (derL S as).map fun bs => b :: bs) = _
  cases der S A with
  | none => rfl
  | some x => cases derL S as <;> rfl
theorem derC_s : derC (some A) (some as) = some (A :: as) := rfl
theorem der_non : der S (k, .non) = some (k, .non) := rfl
theorem der_bl : der S (k, .bl q) = some (k, .bl q) := rfl
theorem der_int : der S (k, .int I) = some (k, .int I) := rfl
theorem der_str : der S (k, .str x) = some (k, .str x) := rfl
theorem der_tup : der S (k, .tup xs) = some (k, .tup xs) := rfl
theorem der_lst : der S (k, .lst xs) = some (k, .lst xs) := rfl
theorem der_dK : der S (k, .dK ks xs) = some (k, .dK ks xs) := rfl
theorem der_dT : der S (k, .dT kts xs) = some (k, .dT kts xs) := rfl
theorem der_obj : der S (k, .obj n fs xs) = some (k, .obj n fs xs) := rfl
theorem der_bx : der S (k, .bx n) = derB n S[n]? := by
  show (match S[n]? with
    | some (some b) => some ((.tn n [], b.d) : Vd)
    | _ => none) = _
  unfold derB; rfl
theorem derB_s : derB n (some (some bx)) = some (.tn n [], bx.d) := rfl
theorem der_of (hd : isBx d = false) : der S (k, d) = some (k, d) := by
  cases d <;> first
    | rfl
    | cases hd
theorem andA_ok : andA Γ b env (.ok (k, d, S1, m)) = andB Γ b env S1 m d := rfl
theorem orA_ok : orA Γ b env (.ok (k, d, S1, m)) = orB Γ b env S1 m d := rfl
theorem andA_ex : andA Γ b env (.exc n S1) = .exc n S1 := rfl
theorem orA_ex : orA Γ b env (.exc n S1) = .exc n S1 := rfl
theorem andB_q : andB Γ b env S1 m (.bl q) = if q = true then orM m (ev Γ b env S1) else .ok (.vl false, .bl false, S1, m) := by cases q <;> rfl
theorem orB_q : orB Γ b env S1 m (.bl q) = if q = true then .ok (.vl false, .bl true, S1, m) else orM m (ev Γ b env S1) := by cases q <;> rfl
theorem orM_ok : orM m (.ok (k, d, S1, m2)) = .ok (k, d, S1, m || m2) := rfl
theorem orM_ex : orM m (.exc n S1) = .exc n S1 := rfl
theorem callA_ok : callA Γ f (.ok (as, S1, m)) = callP Γ f (as.map (argP S1)) S1 m := rfl
theorem callA_ex : callA Γ f (.exc n S1) = .exc n S1 := rfl
theorem cpI_t {w : Z.R (Kd × D)} : cpI true S m w = cpR S m w := rfl
theorem cpR_ok : cpR S m (.ok (k, d)) = .ok (k, d, S, m) := rfl
theorem cpR_ex : cpR S m (.exc n S1) = .exc n S := rfl
theorem icA_ok : icA Γ f (.ok (as, S1, m)) = icC Γ f S1 (argsI as) := rfl
theorem icA_ex : icA Γ f (.exc n S1) = .exc n S1 := rfl
theorem icC_s {zs : List (Bool × D)} : icC Γ f S1 (some zs) = icD (Γ.call f zs S1) := rfl
theorem icD_v : icD (.ok (.vl l, d, S1)) = .ok (.vl l, d, S1, true) := by
  unfold icD asVal
  dsimp only
  cases d.imm <;> rfl
theorem icD_r : icD (.ok (.fr n l, d, S1)) = .ok (.fr n l, d, S1, true) := by
  unfold icD asVal
  dsimp only
  cases d.imm <;> rfl
theorem icD_ex : icD (.exc n S1) = .exc n S1 := rfl
def agC (x : Option (Bool × D)) (xs : Option (List (Bool × D))) : Option (List (Bool × D)) := match x, xs with
  | some x, some xs => some (x :: xs)
  | _, _ => none
theorem argsI_n : argsI [] = some [] := rfl
theorem argsI_c : argsI (A :: as) = agC (argI A) (argsI as) := by
  show (argI A).bind (fun x => (argsI as).map fun xs => x :: xs) = _
  cases argI A with
  | none => rfl
  | some x => cases argsI as <;> rfl
theorem agC_s {w : Bool × D} {ws : List (Bool × D)} : agC (some w) (some ws) = some (w :: ws) := rfl
theorem argI_v : argI (.vl l, d) = some (if d.imm then false else l, d) := by
  unfold argI asVal
  dsimp only
  cases d.imm <;> rfl
theorem argI_r : argI (.fr n l, d) = some (if d.imm then false else l, d) := by
  unfold argI asVal
  dsimp only
  cases d.imm <;> rfl
theorem mtA_ok {pp : Bool} : mtA Γ pp me es env S (.ok (k0, d0, S1, false)) = mtC Γ pp me es env S k0 d0 (der S (k0, d0)) := rfl
theorem mtC_s {pp : Bool} (hp : posOf fs me = none) : mtC Γ pp me es env S k0 d0 (some (k, .obj n fs xs)) = mtD Γ pp me es env S k0 d0 n (methOf Γ.cls n me) := by
  show (if (posOf fs me).isSome = true then _ else _) = _
  rw [hp]; rfl
def mtE (pp : Bool) (S : Sto) (k0 : Kd) (d0 : D) (f : Nat) (r : Z.R (List Vd × Sto × Bool)) : Z.R Res := match r with
    | .ok (as, S1, m) => if m then .stuck else if pp then callP Γ f (((k0, d0) :: as).map (argP S)) S false else icC Γ f S (argsI ((k0, d0) :: as))
    | .exc c S => .exc c S
    | .stuck => .stuck
theorem mtD_s {pp : Bool} : mtD Γ pp me es env S k0 d0 n (some f) = mtE (Γ := Γ) pp S k0 d0 f (evs Γ es env S) := rfl
theorem mtE_p : mtE (Γ := Γ) true S k0 d0 f (.ok (as, S1, false)) = callP Γ f (((k0, d0) :: as).map (argP S)) S false := rfl
theorem mtE_i : mtE (Γ := Γ) false S k0 d0 f (.ok (as, S1, false)) = icC Γ f S (argsI ((k0, d0) :: as)) := rfl
theorem mtE_ex {pp : Bool} : mtE (Γ := Γ) pp S k0 d0 f (.exc n S1) = .exc n S1 := rfl
theorem muA_ok : muA Γ mo es env S (.ok (k0, d0, S1, false)) = muO Γ mo es env S k0 d0 (place S (k0, d0)) := rfl
theorem muO_s (ht : tyMut mo d d = true) : muO Γ mo es env S k0 d0 (some (n, p, bx, d)) = muB mo d k0 d0 (evs Γ es env S) := by
  show (if (!tyMut mo d d) = true then _ else _) = _
  rw [ht]; rfl
theorem muB_ok : muB mo d k0 d0 (.ok (as, S1, m)) = muC mo d k0 d0 m as S1 (place S1 (k0, d0)) := rfl
theorem muB_ex : muB mo d k0 d0 (.exc n S1) = .exc n S1 := rfl
theorem muC_f (ht : tyMut mo d d1 = true) : muC mo d k0 d0 false as S1 (some (n, p, bx, d1)) = muD mo S1 n p bx d1 (derL S1 as) := by
  show (if (false && !p.isEmpty || !tyMut mo d d1) = true then _ else _) = _
  rw [ht]; rfl
theorem muC_n (ht : tyMut mo d d1 = true) : muC mo d k0 d0 m as S1 (some (n, [], bx, d1)) = muD mo S1 n [] bx d1 (derL S1 as) := by
  show (if (m && !([] : List Nat).isEmpty || !tyMut mo d d1) = true then _ else _) = _
  rw [ht]
  cases m <;> rfl
theorem muD_s : muD mo S1 n p bx d (some bs) = muE S1 n p bx (mutv mo (bx.dp - p.length - 1) bx.ln d bs) := rfl
theorem muE_s : muE S1 n p bx (some (d', k, d)) = .ok (k, d, setB S1 n (pathSet bx.d p d'), true) := rfl
theorem lcA_ok {tg : List Nat} {ifs : List Cd} {items : List (Bool × D)} {bo : Option Nat} : lcA Γ dp ln tg tp ifs b env S (.ok (items, bo, S1, false)) = lcD dp ln S (lcGo items (lcF Γ env S bo dp ln tg tp ifs b)) := rfl
theorem lcA_ex {tg : List Nat} {ifs : List Cd} : lcA Γ dp ln tg tp ifs b env S (.exc n S1) = .exc n S1 := rfl
theorem lcD_ok (hz : xs.length ≤ 100000) : lcD dp ln S (.ok xs) = .ok (.fr (dp + 1) ln, .lst xs, S, false) := by
  show (if xs.length ≤ sizeLine then _ else _) = _
  rw [if_pos (Z.small hz)]
def lcB (env' : EnvD) (S : Sto) (dp : Nat) (ln : Bool) (elt : E) (r : Z.R Bool) : Z.R (Option D) := r.bind fun b => if b then (ev Γ elt env' S).bind fun (k, d, _, m2) => if m2 || !fits dp ln (k, d) then .stuck else .ok (some d) else .ok none
def lcE (dp : Nat) (ln : Bool) (r : Z.R Res) : Z.R (Option D) := match r with
  | .ok (k, d, _, m2) => if m2 || !fits dp ln (k, d) then .stuck else .ok (some d)
  | .exc c S => .exc c S
  | .stuck => .stuck
theorem lcF_1 {ifs : List Cd} {w : Bool × D} {bo : Option Nat} : lcF Γ env S bo dp ln [i] false ifs b w = lcB (Γ := Γ) (env.set i (some w)) (lockO S bo) dp ln b (evC Γ ifs (env.set i (some w)) (lockO S bo)) := rfl
theorem lcF_2 {ifs : List Cd} {bo : Option Nat} : lcF Γ env S bo dp ln [i, j] true ifs b (l, .tup [d, d1]) = lcB (Γ := Γ) ((env.set i (some (if d.imm then false else l, d))).set j (some (if d1.imm then false else l, d1))) (lockO S bo) dp ln b (evC Γ ifs ((env.set i (some (if d.imm then false else l, d))).set j (some (if d1.imm then false else l, d1))) (lockO S bo)) := rfl
theorem lcB_q : lcB (Γ := Γ) env S dp ln b (.ok q) = if q = true then lcE dp ln (ev Γ b env S) else .ok none := by
  cases q
  · rfl
  · show (ev Γ b env S).bind _ = lcE dp ln (ev Γ b env S)
    cases ev Γ b env S <;> rfl
theorem lcE_ok (hf : fits dp ln (k, d) = true) : lcE dp ln (.ok (k, d, S, false)) = .ok (some d) := by
  show (if (false || !fits dp ln (k, d)) = true then _ else _) = _
  rw [hf]; rfl
def ecB (cs : List Cd) (env : EnvD) (S : Sto) (r : Z.R (Bool × Sto × Bool)) : Z.R Bool := match r with
  | .ok (b, _, m) => if m then .stuck else if b then evC Γ cs env S else .ok false
  | .exc c S => .exc c S
  | .stuck => .stuck
theorem evC_n : evC Γ [] env S = .ok true := by rw [evC]
theorem evC_c {w : Cd} {ws : List Cd} : evC Γ (w :: ws) env S = ecB (Γ := Γ) ws env S (tst Γ w env S) := by
  rw [evC]
  cases tst Γ w env S <;> rfl
theorem ecB_q {ws : List Cd} : ecB (Γ := Γ) ws env S (.ok (q, S1, false)) = if q = true then evC Γ ws env S else .ok false := rfl
theorem lockO_n : lockO S none = S := rfl
theorem lockO_s : lockO S (some n) = lockB S n true := rfl
theorem mkA_s : mkA Γ q c' dp ln es env S (some f) = mkB Γ q c' dp ln f (evs Γ es env S) := rfl
theorem mkB_ok : mkB Γ q c' dp ln f (.ok (as, S1, m)) = mkC Γ q c' dp ln f S1 (argsI as) := rfl
theorem mkB_ex : mkB Γ q c' dp ln f (.exc n S1) = .exc n S1 := rfl
theorem mkC_s {zs : List (Bool × D)} : mkC Γ q c' dp ln f S1 (some zs) = mkD q S1.length (Γ.call f ((false, .bx S1.length) :: zs) (S1 ++ [some ⟨dp + 1, ln, false, .obj c' [] []⟩])) := rfl
theorem mkD_t : mkD true n (.ok (k, .non, S1)) = .ok (.vl false, .bx n, S1, true) := rfl
theorem mkD_f : mkD false n (.ok (k, .non, S1)) = lkb n S1 S1[n]? := rfl
theorem mkD_ex : mkD q n (.exc f S1) = .exc f S1 := rfl
theorem tAnd_ok {y : Cd} : tAnd Γ y env (.ok (q, S1, false)) = if q = true then tst Γ y env S1 else .ok (false, S1, false) := by
  cases q
  · rfl
  · show (match tst Γ y env S1 with
      | .ok (c2, S2, m2) => .ok (c2, S2, false || m2)
      | .exc c S => .exc c S
      | .stuck => .stuck) = tst Γ y env S1
    cases tst Γ y env S1 with
    | ok r => obtain ⟨a, b, c⟩ := r; cases c <;> rfl
    | _ => rfl
theorem tOr_ok {y : Cd} : tOr Γ y env (.ok (q, S1, false)) = if q = true then .ok (true, S1, false) else tst Γ y env S1 := by
  cases q
  · show (match tst Γ y env S1 with
      | .ok (c2, S2, m2) => .ok (c2, S2, false || m2)
      | .exc c S => .exc c S
      | .stuck => .stuck) = tst Γ y env S1
    cases tst Γ y env S1 with
    | ok r => obtain ⟨a, b, c⟩ := r; cases c <;> rfl
    | _ => rfl
  · rfl
def tM (m : Bool) (r : Z.R (Bool × Sto × Bool)) : Z.R (Bool × Sto × Bool) := match r with
  | .ok (c2, S2, m2) => .ok (c2, S2, m || m2)
  | .exc c S => .exc c S
  | .stuck => .stuck
theorem tAnd_m {y : Cd} : tAnd Γ y env (.ok (q, S1, true)) = if q = true then tM true (tst Γ y env S1) else .ok (false, S1, true) := by
  cases q <;> rfl
theorem tOr_m {y : Cd} : tOr Γ y env (.ok (q, S1, true)) = if q = true then .ok (true, S1, true) else tM true (tst Γ y env S1) := by
  cases q <;> rfl
theorem tM_ok : tM true (.ok (q, S1, m)) = .ok (q, S1, true) := rfl
theorem tNot_ok : tNot (.ok (q, S1, m)) = .ok (!q, S1, m) := rfl
theorem tB_ok : tB (.ok (k, .bl q, S1, m)) = .ok (q, S1, m) := rfl
theorem tB_ex : tB (.exc n S1) = .exc n S1 := rfl
theorem tT_ok : tT (.ok (k, d, S1, m)) = tB2 S1 m (tT2 (der S1 (k, d))) := rfl
theorem tT2_s : tT2 (some A) = truthD A.2 := rfl
theorem tB2_s : tB2 S1 m (some q) = .ok (q, S1, m) := rfl
theorem tru_non : truthD .non = some false := rfl
theorem tru_bl : truthD (.bl q) = some q := rfl
theorem tru_int : truthD (.int I) = some (I != 0) := rfl
theorem tru_lst : truthD (.lst xs) = some (!xs.isEmpty) := rfl
theorem tru_tup : truthD (.tup xs) = some (!xs.isEmpty) := rfl
theorem kS_nx : kS Γ ss (.nx env S) = exs Γ ss env S := rfl
theorem kS_ct : kS Γ ss (.ct env S) = .ct env S := rfl
theorem kS_ret : kS Γ ss (.ret k d S) = .ret k d S := rfl
theorem kS_ex : kS Γ ss (.exc n env S) = .exc n env S := rfl
theorem asgA_ok {bo : Option (Nat × Bool)} : asgA i bo env (.ok (k, d, S1, m)) = asgB (bindV env S1 i bo (k, d)) := rfl
theorem asgA_ex {bo : Option (Nat × Bool)} : asgA i bo env (.exc n S1) = .exc n env S1 := rfl
theorem asgB_s : asgB (some (env, S)) = .nx env S := rfl
theorem bindV_v : bindV env S i none (.vl l, d) = some (env.set i (some (if d.imm then false else l, d)), S) := by
  unfold bindV asVal
  dsimp only
  cases d.imm <;> rfl
theorem bindV_r : bindV env S i none (.fr n l, d) = some (env.set i (some (if d.imm then false else l, d)), S) := by
  unfold bindV asVal
  dsimp only
  cases d.imm <;> rfl
theorem bindV_tn (hd : d.imm = true) : bindV env S i none (.tn n p, d) = some (env.set i (some (false, d)), S) := by
  unfold bindV asVal
  dsimp only
  rw [hd]; rfl
theorem bindV_b (hc : isCon d = true) (hf : fits (dp + 1) ln (k, d) = true) : bindV env S i (some (dp, ln)) (k, d) = some (env.set i (some (false, .bx S.length)), S ++ [some ⟨dp + 1, ln, false, d⟩]) := by
  show (if isCon d = true then (if fits (dp + 1) ln (k, d) then some (env.set i (some (false, .bx S.length)), S ++ [some ⟨dp + 1, ln, false, d⟩]) else none) else _) = _
  rw [if_pos hc, if_pos hf]
theorem bindV_bn (hc : isCon d = false) : bindV env S i (some (dp, ln)) (.vl l, d) = some (env.set i (some (if d.imm then false else l, d)), S) := by
  show (if isCon d = true then _ else (asVal (.vl l, d)).map fun l => (env.set i (some (l, d)), S)) = _
  rw [if_neg (by rw [hc]; decide)]
  unfold asVal
  dsimp only
  cases d.imm <;> rfl
theorem isCon_lst : isCon (.lst xs) = true := Eq.trans rfl rfl
theorem isCon_dK : isCon (.dK ks xs) = true := Eq.trans rfl rfl
theorem isCon_dT : isCon (.dT kts xs) = true := Eq.trans rfl rfl
theorem isCon_obj : isCon (.obj n fs xs) = true := Eq.trans rfl rfl
theorem isCon_non : isCon .non = false := Eq.trans rfl rfl
theorem isCon_bx : isCon (.bx n) = false := Eq.trans rfl rfl
theorem isCon_tup : isCon (.tup xs) = false := Eq.trans rfl rfl
theorem isCon_bl : isCon (.bl q) = false := Eq.trans rfl rfl
theorem isCon_int : isCon (.int I) = false := Eq.trans rfl rfl
theorem isCon_str : isCon (.str x) = false := Eq.trans rfl rfl
theorem imm_non : D.imm .non = true := Eq.trans rfl rfl
theorem imm_bl : D.imm (.bl q) = true := Eq.trans rfl rfl
theorem imm_int : D.imm (.int I) = true := Eq.trans rfl rfl
theorem imm_str : D.imm (.str x) = true := Eq.trans rfl rfl
theorem imm_bx : D.imm (.bx n) = true := Eq.trans rfl rfl
theorem imm_lst : D.imm (.lst xs) = false := Eq.trans rfl rfl
theorem imm_dK : D.imm (.dK ks xs) = false := Eq.trans rfl rfl
theorem imm_dT : D.imm (.dT kts xs) = false := Eq.trans rfl rfl
theorem imm_obj : D.imm (.obj n fs xs) = false := Eq.trans rfl rfl
theorem imm_tup : D.imm (.tup xs) = immL xs := Eq.trans rfl rfl
theorem immL_n : immL [] = true := Eq.trans rfl rfl
theorem immL_c : immL (d :: xs) = (d.imm && immL xs) := Eq.trans rfl rfl
theorem nbx_non : D.noBx .non = true := Eq.trans rfl rfl
theorem nbx_bl : D.noBx (.bl q) = true := Eq.trans rfl rfl
theorem nbx_int : D.noBx (.int I) = true := Eq.trans rfl rfl
theorem nbx_str : D.noBx (.str x) = true := Eq.trans rfl rfl
theorem nbx_bx : D.noBx (.bx n) = false := Eq.trans rfl rfl
theorem nbx_lst : D.noBx (.lst xs) = noBxL xs := Eq.trans rfl rfl
theorem nbx_dK : D.noBx (.dK ks xs) = noBxL xs := Eq.trans rfl rfl
theorem nbx_dT : D.noBx (.dT kts xs) = noBxL xs := Eq.trans rfl rfl
theorem nbx_obj : D.noBx (.obj n fs xs) = noBxL xs := Eq.trans rfl rfl
theorem nbx_tup : D.noBx (.tup xs) = noBxL xs := Eq.trans rfl rfl
theorem nbxL_n : noBxL [] = true := Eq.trans rfl rfl
theorem nbxL_c : noBxL (d :: xs) = (d.noBx && noBxL xs) := Eq.trans rfl rfl
theorem nbxL_app : noBxL (xs ++ ys) = (noBxL xs && noBxL ys) := by
  induction xs with
  | nil => rfl
  | cons d xs ih => show (d.noBx && noBxL (xs ++ ys)) = (d.noBx && noBxL xs && noBxL ys); rw [ih, Bool.and_assoc]
theorem immL_app : immL (xs ++ ys) = (immL xs && immL ys) := by
  induction xs with
  | nil => rfl
  | cons d xs ih => show (d.imm && immL (xs ++ ys)) = (d.imm && immL xs && immL ys); rw [ih, Bool.and_assoc]
theorem nbxL_int (zs : List Int) : noBxL (zs.map .int) = true := by induction zs <;> simp_all [noBxL, D.noBx]
theorem nbxL_str (zs : List Str) : noBxL (zs.map .str) = true := by induction zs <;> simp_all [noBxL, D.noBx]
theorem immL_int (zs : List Int) : immL (zs.map .int) = true := by induction zs <;> simp_all [immL, D.imm]
theorem immL_str (zs : List Str) : immL (zs.map .str) = true := by induction zs <;> simp_all [immL, D.imm]
theorem nbxL_map {α : Type} {g : α → D} {zs : List α} (h : ∀ w, (g w).noBx = true) : noBxL (zs.map g) = true := by induction zs <;> simp_all [noBxL]
theorem immL_map {α : Type} {g : α → D} {zs : List α} (h : ∀ w, (g w).imm = true) : immL (zs.map g) = true := by induction zs <;> simp_all [immL]
mutual
theorem snapD_nb (g : Nat → D) : ∀ {d : D}, d.noBx = true → snapD g d = d
  | .non, _ => rfl
  | .bl _, _ => rfl
  | .int _, _ => rfl
  | .str _, _ => rfl
  | .tup xs, h => by
    show D.tup (snapL g xs) = _
    rw [snapL_nb g h]
  | .lst xs, h => by
    show D.lst (snapL g xs) = _
    rw [snapL_nb g h]
  | .dK ks xs, h => by
    show D.dK ks (snapL g xs) = _
    rw [snapL_nb g h]
  | .dT ks xs, h => by
    show D.dT ks (snapL g xs) = _
    rw [snapL_nb g h]
  | .obj c fs xs, h => by
    show D.obj c fs (snapL g xs) = _
    rw [snapL_nb g h]
  | .bx _, h => by cases h
theorem snapL_nb (g : Nat → D) : ∀ {xs : List D}, noBxL xs = true → snapL g xs = xs
  | [], _ => rfl
  | d :: xs, h => by
    obtain ⟨h1, h2⟩ := Bool.and_eq_true_iff.mp (show (d.noBx && noBxL xs) = true from h)
    show snapD g d :: snapL g xs = _
    rw [snapD_nb g h1, snapL_nb g h2]
end
theorem snapF_nb (h : d.noBx = true) : ∀ n, snapF S n d = d
  | 0 => rfl
  | n + 1 => snapD_nb _ h
def lentK : Kd → Bool
  | .vl l => l
  | .fr _ l => l
  | .tn _ _ => true
theorem argP_nb (h : d.noBx = true) : argP S (k, d) = (if d.imm then false else lentK k, d) := by
  unfold argP
  dsimp only
  rw [snapF_nb h, h]
  cases k <;> rfl
theorem lentK_v : lentK (.vl l) = l := rfl
theorem lentK_r : lentK (.fr n l) = l := rfl
theorem lentK_t : lentK (.tn n p) = true := rfl
def agB (n : Nat) (o : Option (Option Bx)) : D := match o with
  | some (some b) => b.d
  | _ => .bx n
theorem argP_bx : argP S (k, .bx n) = (if (snapF S 3 (agB n S[n]?)).imm then false else (match k with
  | .vl _ => true
  | .fr _ _ => true
  | .tn _ _ => true), snapF S 3 (agB n S[n]?)) := by
  have e : snapF S 4 (.bx n) = snapF S 3 (agB n S[n]?) := rfl
  unfold argP
  dsimp only
  rw [e]
  cases k <;> rfl
theorem argP_bv : argP S (.vl l, .bx n) = (if (snapF S 3 (agB n S[n]?)).imm then false else true, snapF S 3 (agB n S[n]?)) := argP_bx
theorem agB_s : agB n (some (some bx)) = bx.d := rfl
theorem fits_r : fits dp ln (.fr j l, d) = (d.imm || (decide (dp ≤ j) && (!l || ln))) := Eq.trans rfl rfl
theorem fits_v : fits dp ln (.vl l, d) = (d.imm || (dp == 0 && (!l || ln))) := Eq.trans rfl rfl
theorem settle_eq : settle S k xs = (if immL xs = true then some false else match k with
  | .vl l => some l
  | .fr _ l => some l
  | .tn n p => match S[n]? with
    | some (some b) => if p.length + 1 < b.dp then none else some b.ln
    | _ => none) := rfl
theorem settle_v : settle S (.vl l) xs = some (if immL xs then false else l) := by
  rw [settle_eq]; cases immL xs <;> rfl
theorem settle_r : settle S (.fr n l) xs = some (if immL xs then false else l) := by
  rw [settle_eq]; cases immL xs <;> rfl
def stT (p : List Nat) (o : Option (Option Bx)) : Option Bool := match o with
  | some (some b) => if p.length + 1 < b.dp then none else some b.ln
  | _ => none
theorem settle_i (h : immL xs = true) : settle S k xs = some false := by rw [settle_eq, if_pos h]
theorem settle_t : settle S (.tn n p) xs = if immL xs = true then some false else stT p S[n]? := by
  rw [settle_eq]
  cases immL xs
  · show (match S[n]? with
      | some (some b) => if p.length + 1 < b.dp then none else some b.ln
      | _ => none) = stT p S[n]?
    unfold stT; rfl
  · rfl
theorem stT_s : stT p (some (some bx)) = if p.length + 1 < bx.dp then none else some bx.ln := rfl
theorem unpA_ok {is : List Nat} : unpA is env (.ok (k, d, S1, m)) = unpB S1 (unpTo env S1 is (k, d)) := rfl
theorem unpA_ex {is : List Nat} : unpA is env (.exc n S1) = .exc n env S1 := rfl
theorem unpB_s : unpB S1 (some env) = .nx env S1 := rfl
def unp2 (i j : Nat) (d d1 : D) (env : EnvD) (o : Option Bool) : Option EnvD := match o with
  | some l => some ((env.set i (some (if d.imm then false else l, d))).set j (some (if d1.imm then false else l, d1)))
  | none => none
theorem unpTo_2 : unpTo env S [i, j] (k, .tup [d, d1]) = unp2 i j d d1 env (settle S k [d, d1]) := by
  show (settle S k [d, d1]).map _ = _
  cases settle S k [d, d1] <;> rfl
theorem unp2_s : unp2 i j d d1 env (some l) = some ((env.set i (some (if d.imm then false else l, d))).set j (some (if d1.imm then false else l, d1))) := rfl
def unpn (is : List Nat) (xs : List D) (env : EnvD) (o : Option Bool) : Option EnvD := match o with
  | some l => some ((is.zip xs).foldl (fun e p => e.set p.1 (some (if p.2.imm then false else l, p.2))) env)
  | none => none
theorem unpTo_5 {g : Nat} : unpTo env S [i, j, n, f, g] (k, .tup [d, d1, d2, d3, d4]) = unpn [i, j, n, f, g] [d, d1, d2, d3, d4] env (settle S k [d, d1, d2, d3, d4]) := by
  show (settle S k [d, d1, d2, d3, d4]).map _ = _
  cases settle S k [d, d1, d2, d3, d4] <;> rfl
theorem unpn_s {is : List Nat} : unpn is xs env (some l) = some ((is.zip xs).foldl (fun e p => e.set p.1 (some (if p.2.imm then false else l, p.2))) env) := rfl
theorem exA_ok : exA env (.ok (k, d, S1, m)) = .nx env S1 := rfl
theorem exA_ex : exA env (.exc n S1) = .exc n env S1 := rfl
theorem retA_v : retA env (.ok (.vl l, d, S1, m)) = .ret (.vl l) d S1 := rfl
theorem retA_r : retA env (.ok (.fr n l, d, S1, m)) = .ret (.fr n l) d S1 := rfl
theorem retA_ex : retA env (.exc n S1) = .exc n env S1 := rfl
theorem iteA_q : iteA Γ u v env (.ok (q, S1, m)) = if q = true then exs Γ u env S1 else exs Γ v env S1 := rfl
theorem iteA_ex : iteA Γ u v env (.exc n S1) = .exc n env S1 := rfl
theorem forA_n {tg : List Nat} {items : List (Bool × D)} : forA Γ tg tp u env (.ok (items, none, S1, m)) = forGo items (forB Γ tg tp u) env S1 := rfl
theorem forA_s {tg : List Nat} {items : List (Bool × D)} : forA Γ tg tp u env (.ok (items, some n, S1, m)) = unlk n (lockOf S1 n) (forGo items (forB Γ tg tp u) env (lockB S1 n true)) := rfl
theorem unlk_nx : unlk n l (.nx env S) = .nx env (lockB S n l) := rfl
theorem unlk_ret : unlk n l (.ret k d S) = .ret k d (lockB S n l) := rfl
theorem unlk_ex : unlk n l (.exc f env S) = .exc f env (lockB S n l) := rfl
def lkB2 (S : Sto) (n : Nat) (l : Bool) (o : Option (Option Bx)) : Sto := match o with
  | some (some b) => S.set n (some { b with lk := l })
  | _ => S
theorem lockB_eq : lockB S n l = lkB2 S n l S[n]? := by unfold lockB lkB2; rfl
theorem lkB2_s : lkB2 S n l (some (some bx)) = S.set n (some { bx with lk := l }) := rfl
def lkO2 (o : Option (Option Bx)) : Bool := match o with
  | some (some b) => b.lk
  | _ => false
theorem lockOf_eq : lockOf S n = lkO2 S[n]? := by unfold lockOf lkO2; rfl
theorem lkO2_s : lkO2 (some (some bx)) = bx.lk := rfl
theorem forK_nx {g : Bool × D → EnvD → Sto → SO} {items : List (Bool × D)} : forK g items (.nx env S) = forGo items g env S := rfl
theorem forK_ct {g : Bool × D → EnvD → Sto → SO} {items : List (Bool × D)} : forK g items (.ct env S) = forGo items g env S := rfl
theorem forK_ret {g : Bool × D → EnvD → Sto → SO} {items : List (Bool × D)} : forK g items (.ret k d S) = .ret k d S := rfl
theorem forK_ex {g : Bool × D → EnvD → Sto → SO} {items : List (Bool × D)} : forK g items (.exc n env S) = .exc n env S := rfl
theorem itS_ok : itS (.ok (k, d, S1, m)) = itS2 S1 m (der S1 (k, d)) := rfl
theorem itS_ex : itS (.exc n S1) = .exc n S1 := rfl
theorem itE_ok : itE (.ok (k, d, S1, m)) = itE2 S1 m (der S1 (k, d)) := rfl
theorem itV_ok : itV (.ok (k, d, S1, m)) = itV2 S1 m (der S1 (k, d)) := rfl
theorem itS2_l : itS2 S1 m (some (k, .lst xs)) = itB S1 m (itemsOf S1 k xs) := rfl
theorem itS2_t : itS2 S1 m (some (k, .tup xs)) = itB S1 m (itemsOf S1 k xs) := rfl
theorem itS2_s : itS2 S1 m (some (k, .str x)) = .ok (x.cps.toList.map fun c => (false, .str ⟨#[c]⟩), none, S1, m) := rfl
theorem itE2_l : itE2 S1 m (some (k, .lst xs)) = itB S1 m (enuO (itemsOf S1 k xs)) := rfl
theorem itV2_l : itV2 S1 m (some (k, .lst xs)) = itB S1 m (revO (itemsOf S1 k xs)) := rfl
theorem enuO_s {w : List (Bool × D) × Option Nat} : enuO (some w) = some (enuL 0 w.1, w.2) := rfl
theorem revO_s {w : List (Bool × D) × Option Nat} : revO (some w) = some (w.1.reverse, w.2) := rfl
theorem itB_s {w : List (Bool × D) × Option Nat} : itB S1 m (some w) = .ok (w.1, w.2, S1, m) := rfl
theorem items_v : itemsOf S (.vl l) xs = some (xs.map fun d => (if immL xs then false else l, d), none) := by
  show (settle S (.vl l) xs).map _ = _
  rw [settle_v]; rfl
theorem items_r : itemsOf S (.fr n l) xs = some (xs.map fun d => (if immL xs then false else l, d), none) := by
  show (settle S (.fr n l) xs).map _ = _
  rw [settle_r]; rfl
def itT (n : Nat) (xs : List D) (o : Option Bool) : Option (List (Bool × D) × Option Nat) := match o with
  | some l => some (xs.map fun d => (l, d), some n)
  | none => none
theorem items_t : itemsOf S (.tn n p) xs = itT n xs (settle S (.tn n p) xs) := by
  show (settle S (.tn n p) xs).map _ = _
  cases settle S (.tn n p) xs <;> rfl
theorem itT_s : itT n xs (some l) = some (xs.map fun d => (l, d), some n) := rfl
theorem itR_1 (h1 : -4611686018427387904 ≤ I) (h2 : I < 4611686018427387904) : itR (.ok ([(k, .int I)], S1, m)) = .ok ((List.range I.toNat).map fun (i : Nat) => (false, D.int i), none, S1, m) := by
  show (if -(2 ^ 62) ≤ I ∧ I < 2 ^ 62 then _ else _) = _
  rw [if_pos ⟨by omega, by omega⟩]
theorem itR_2 (h1 : -4611686018427387904 ≤ I) (h2 : I < 4611686018427387904) (h3 : -4611686018427387904 ≤ J) (h4 : J < 4611686018427387904) : itR (.ok ([(k, .int I), (k1, .int J)], S1, m)) = .ok ((List.range (J - I).toNat).map fun (i : Nat) => (false, D.int (I + i)), none, S1, m) := by
  show (if -(2 ^ 62) ≤ I ∧ I < 2 ^ 62 ∧ -(2 ^ 62) ≤ J ∧ J < 2 ^ 62 then _ else _) = _
  rw [if_pos ⟨by omega, by omega, by omega, by omega⟩]
theorem itR_ex : itR (.exc n S1) = .exc n S1 := rfl
theorem sbA_v : sbA Γ a b env (.ok (.vl l, d, S1, m)) = sbB Γ b S1 env (.vl l, d) (ev Γ a env S1) := rfl
theorem sbA_r : sbA Γ a b env (.ok (.fr n l, d, S1, m)) = sbB Γ b S1 env (.fr n l, d) (ev Γ a env S1) := rfl
theorem sbA_ex : sbA Γ a b env (.exc n S1) = .exc n env S1 := rfl
theorem sbB_ok : sbB Γ b S1 env A (.ok (k0, d0, S2, false)) = sbC S1 env A (k0, d0) (ev Γ b env S1) := rfl
theorem sbC_ok : sbC S1 env A B (.ok (k2, d2, S2, false)) = sbD S1 env A d2 (place S1 B) := rfl
theorem sbD_s : sbD S1 env A d2 (some (n, p, bx, d)) = sbE S1 env n p bx (setv (bx.dp - p.length - 1) bx.ln d d2 A) := rfl
theorem sbE_s : sbE S1 env n p bx (some d) = .nx env (setB S1 n (pathSet bx.d p d)) := rfl
theorem fdA_v : fdA Γ a x env (.ok (.vl l, d, S1, m)) = fdB S1 env x (.vl l, d) (ev Γ a env S1) := rfl
theorem fdA_r : fdA Γ a x env (.ok (.fr n l, d, S1, m)) = fdB S1 env x (.fr n l, d) (ev Γ a env S1) := rfl
theorem fdA_ex : fdA Γ a x env (.exc n S1) = .exc n env S1 := rfl
theorem fdB_ok : fdB S1 env x A (.ok (k0, d0, S2, false)) = fdD S1 env x A (place S1 (k0, d0)) := rfl
theorem fdD_s : fdD S1 env x A (some (n, p, bx, d)) = sbE S1 env n p bx (setf (bx.dp - p.length - 1) bx.ln d x A) := rfl
theorem fzA_b : fzA i env S (some (some (l, .bx n))) = fzB n i env S S[n]? := rfl
theorem fzB_s : fzB n i env S (some (some ⟨dp, ln, false, d⟩)) = .nx (env.set i (some (ln, d))) (S.set n none) := rfl
theorem plA_s : plA n p (some (some ⟨dp, ln, false, d⟩)) = if p.length < dp then plB n p ⟨dp, ln, false, d⟩ (pathGet d p) else none := rfl
theorem plB_s : plB n p bx (some d) = some (n, p, bx, d) := rfl
theorem pg_n : pathGet d [] = some d := by cases d <;> rfl
def pgO (p : List Nat) (o : Option D) : Option D := match o with
  | some x => pathGet x p
  | none => none
theorem pg_c : pathGet d (i :: p) = pgO p d.kids[i]? := by
  cases d <;> rfl
theorem pgO_s : pgO p (some d) = pathGet d p := rfl
def psO (d : D) (i : Nat) (p : List Nat) (e : D) (o : Option D) : D := match o with
  | some x => d.withKids (d.kids.set i (pathSet x p e))
  | none => d
theorem ps_n : pathSet d [] d1 = d1 := by cases d <;> rfl
theorem ps_c : pathSet d (i :: p) d1 = psO d i p d1 d.kids[i]? := by
  cases d <;> rfl
theorem psO_s : psO d i p d1 (some d2) = d.withKids (d.kids.set i (pathSet d2 p d1)) := rfl
theorem kids_obj : D.kids (.obj n fs xs) = xs := rfl
theorem kids_lst : D.kids (.lst xs) = xs := rfl
theorem kids_tup : D.kids (.tup xs) = xs := rfl
theorem kids_dK : D.kids (.dK ks xs) = xs := rfl
theorem kids_dT : D.kids (.dT kts xs) = xs := rfl
theorem wk_obj : D.withKids (.obj n fs xs) ys = .obj n fs ys := rfl
theorem wk_lst : D.withKids (.lst xs) ys = .lst ys := rfl
theorem wk_tup : D.withKids (.tup xs) ys = .tup ys := rfl
theorem wk_dK : D.withKids (.dK ks xs) ys = .dK ks ys := rfl
theorem wk_dT : D.withKids (.dT kts xs) ys = .dT kts ys := rfl
def sB2 (S : Sto) (n : Nat) (d : D) (o : Option (Option Bx)) : Sto := match o with
  | some (some b) => S.set n (some { b with d := d })
  | _ => S
theorem setB_q : setB S n d = sB2 S n d S[n]? := by unfold setB sB2; rfl
theorem sB2_s : sB2 S n d (some (some ⟨dp, ln, l, d1⟩)) = S.set n (some ⟨dp, ln, l, d⟩) := rfl
theorem fnA_nx : fnA (.nx env S) = .ok (.vl false, .non) := rfl
theorem fnA_ret : fnA (.ret k d S) = outP (k, d, S) := rfl
theorem fnA_ex : fnA (.exc n env S) = .exc n [] := rfl
theorem rnA_nx : rnA (.nx env S) = .ok (.vl false, .non, S) := rfl
theorem rnA_ret : rnA (.ret k d S) = .ok (k, d, S) := rfl
theorem rnA_ex : rnA (.exc n env S) = .exc n S := rfl
theorem outP_v (h : d.noBx = true) : outP (.vl false, d, S) = .ok (.vl false, d) := by
  unfold outP
  dsimp only
  rw [if_pos h]
  cases d.imm <;> rfl
theorem outP_i (h : d.noBx = true) (hi : d.imm = true) : outP (k, d, S) = .ok (.vl false, d) := by
  unfold outP
  dsimp only
  rw [if_pos h, if_pos hi]
theorem outP_r (h : d.noBx = true) : outP (.fr n false, d, S) = .ok (if d.imm then .vl false else .fr n false, d) := by
  unfold outP
  dsimp only
  rw [if_pos h]
  cases d.imm <;> rfl
theorem gam_call : (gam P n).call f = run P n f := rfl
theorem gam_cls : (gam P n).cls = P.cls := rfl
theorem norm_vl : norm (.vl l, d) = (.vl (if d.imm then false else l), d) := by
  unfold norm
  dsimp only
  cases d.imm <;> rfl
theorem norm_fr : norm (.fr n l, d) = if d.imm then (.vl false, d) else (.fr n l, d) := rfl
theorem norm_i (h : d.imm = true) : norm (k, d) = (.vl false, d) := by
  unfold norm
  dsimp only
  rw [if_pos h]
theorem norm_n (h : d.imm = false) : norm (k, d) = (k, d) := by
  unfold norm
  dsimp only
  rw [h]; rfl
end
end Y

namespace Y
open Z PySem L2 TL
theorem mk_len (l : List Nat) : (mkS l).length = l.length := by simp [mkS, Str.length]
theorem mk_cps (l : List Nat) : (mkS l).cps.toList = l := rfl
theorem mk_tl' (x : Str) : mkS (tl x) = x := mk_tl x
theorem mk_inj {a b : List Nat} : (mkS a = mkS b) = (a = b) := propext ⟨fun h => by have := congrArg tl h; exact this, fun h => by rw [h]⟩
theorem mk_app (a b : List Nat) : mkS a ++ mkS b = mkS (a ++ b) := ext_tl (tl_append _ _)
theorem mk_one (c : Nat) : (⟨#[c]⟩ : Str) = mkS [c] := rfl
theorem mk_arr (l : List Nat) : (⟨l.toArray⟩ : Str) = mkS l := rfl
section
variable {S S1 : Sto} {m q ln l lo hi tp : Bool} {k k0 k1 k2 : Kd} {d d0 d1 d2 d3 : D} {as bs : List Vd} {h i j n f dp : Nat} {o : Op} {x y z : Str} {A B : Vd} {I J N : Int} {xs ys : List D} {p : List Nat} {fs : List Str} {ks : List Key} {kts : List (List Key)} {a b : List Nat}
theorem o_add : opv .add S [(k, .int I), (k1, .int J)] = some (.vl false, .int (I + J)) := rfl
theorem o_sub : opv .sub S [(k, .int I), (k1, .int J)] = some (.vl false, .int (I - J)) := rfl
theorem o_mul (h1 : -(10 ^ 130) ≤ I) (h2 : I ≤ 10 ^ 130) (h3 : -(10 ^ 130) ≤ J) (h4 : J ≤ 10 ^ 130) : opv .mul S [(k, .int I), (k1, .int J)] = some (.vl false, .int (I * J)) := by
  have l1 := log_small (n := I.natAbs) (k := 400000) (Nat.lt_of_le_of_lt (show I.natAbs ≤ 10 ^ 130 by omega) (Nat.lt_of_lt_of_le (show (10 : Nat) ^ 130 < 2 ^ 500 by decide +kernel) (Nat.pow_le_pow_right (by decide) (by decide)))) (by decide)
  have l2 := log_small (n := J.natAbs) (k := 400000) (Nat.lt_of_le_of_lt (show J.natAbs ≤ 10 ^ 130 by omega) (Nat.lt_of_lt_of_le (show (10 : Nat) ^ 130 < 2 ^ 500 by decide +kernel) (Nat.pow_le_pow_right (by decide) (by decide)))) (by decide)
  have e : opv .mul S [(k, .int I), (k1, .int J)] = if I.natAbs.log2 + J.natAbs.log2 < 1000000 then vT (.int (I * J)) else none := by
      cases k with
      | fr n l => cases n <;> rfl
      | _ => rfl
  rw [e, if_pos (by omega)]; rfl
theorem o_fdiv (h1 : 0 < J) (h2 : J ≤ 10 ^ 130) : opv .fdiv S [(k, .int I), (k1, .int J)] = some (.vl false, .int (I / J)) := by
  have l2 := log_small (n := J.natAbs) (k := 500) (Nat.lt_of_le_of_lt (show J.natAbs ≤ 10 ^ 130 by omega) (show (10 : Nat) ^ 130 < 2 ^ 500 by decide +kernel)) (by decide)
  show Option.map _ (if 0 < J ∧ J.natAbs.log2 < 9000 then some (D.int (I / J)) else none) = _
  rw [if_pos ⟨h1, by omega⟩]; rfl
theorem o_mod (h1 : 0 < J) : opv .mod S [(k, .int I), (k1, .int J)] = some (.vl false, .int (I % J)) := by
  show Option.map _ (if 0 < J then some (D.int (I % J)) else none) = _
  rw [if_pos h1]; rfl
theorem o_pow (h1 : 0 ≤ J) (h2 : J ≤ 1000000) (h3 : -1000000 ≤ I) (h4 : I ≤ 1000000) : opv .pow S [(k, .int I), (k1, .int J)] = some (.vl false, .int (I ^ J.toNat)) := by
  show Option.map _ (if 0 ≤ J ∧ J ≤ 1000000 ∧ I.natAbs < 2 ^ 64 then some (D.int (I ^ J.toNat)) else none) = _
  rw [if_pos ⟨h1, h2, by omega⟩]; rfl
theorem o_shl (h1 : 0 ≤ J) (h2 : J ≤ 1000000) (h3 : -1000000 ≤ I) (h4 : I ≤ 1000000) : opv .shl S [(k, .int I), (k1, .int J)] = some (.vl false, .int (I * 2 ^ J.toNat)) := by
  show Option.map _ (if 0 ≤ J ∧ J ≤ 1000000 ∧ I.natAbs < 2 ^ 64 then some (D.int (I * 2 ^ J.toNat)) else none) = _
  rw [if_pos ⟨h1, h2, by omega⟩]; rfl
theorem o_shr (h1 : 0 ≤ J) : opv .shr S [(k, .int I), (k1, .int J)] = some (.vl false, .int (I / 2 ^ J.toNat)) := by
  show Option.map _ (if 0 ≤ J then some (D.int (I / 2 ^ J.toNat)) else none) = _
  rw [if_pos h1]; rfl
theorem o_band : opv .band S [(k, .int I), (k1, .int J)] = some (.vl false, .int (Builtin.bitAnd I J)) := rfl
theorem o_bor : opv .bor S [(k, .int I), (k1, .int J)] = some (.vl false, .int (Builtin.bitOr I J)) := rfl
theorem o_neg : opv .neg S [(k, .int I)] = some (.vl false, .int (-I)) := rfl
theorem o_abs : opv .abs S [(k, .int I)] = some (.vl false, .int (if I < 0 then -I else I)) := rfl
theorem o_lt : opv .lt S [(k, .int I), (k1, .int J)] = some (.vl false, .bl (decide (I < J))) := rfl
theorem o_le : opv .le S [(k, .int I), (k1, .int J)] = some (.vl false, .bl (decide (I ≤ J))) := rfl
theorem o_gt : opv .gt S [(k, .int I), (k1, .int J)] = some (.vl false, .bl (decide (J < I))) := rfl
theorem o_ge : opv .ge S [(k, .int I), (k1, .int J)] = some (.vl false, .bl (decide (J ≤ I))) := rfl
theorem o_min2 : opv .min2 S [(k, .int I), (k1, .int J)] = some (.vl false, .int (if J < I then J else I)) := rfl
theorem o_max2 : opv .max2 S [(k, .int I), (k1, .int J)] = some (.vl false, .int (if J > I then J else I)) := rfl
def bO (o : Option Bool) : Option Vd := match o with
  | some b => some (.vl false, .bl b)
  | none => none
def bN (o : Option Bool) : Option Vd := match o with
  | some b => some (.vl false, .bl (!b))
  | none => none
theorem bO_s : bO (some q) = some (.vl false, .bl q) := rfl
theorem bN_s : bN (some q) = some (.vl false, .bl (!q)) := rfl
theorem o_eq : opv .eq S [(k, d), (k1, d1)] = bO (eqD d d1) := by
  show Option.map _ ((eqD d d1).map _) = _
  cases eqD d d1 <;> rfl
theorem o_ne : opv .ne S [(k, d), (k1, d1)] = bN (eqD d d1) := by
  show Option.map _ ((eqD d d1).map _) = _
  cases eqD d d1 <;> rfl
theorem eq_i : eqD (.int I) (.int J) = some (decide (I = J)) := rfl
theorem eq_s : eqD (.str x) (.str y) = some (decide (x = y)) := rfl
theorem eq_b {u v : Bool} : eqD (.bl u) (.bl v) = some (decide (u = v)) := rfl
theorem o_notB : opv .notB S [(k, d)] = bN (truthD d) := by
  show Option.map _ ((truthD d).map _) = _
  cases truthD d <;> rfl
theorem o_isN : opv .isN S [(k, d)] = some (.vl false, .bl (opIsN d)) := rfl
theorem o_notN : opv .notN S [(k, d)] = some (.vl false, .bl (!opIsN d)) := rfl
theorem o_isI : opv (.isI n) S [(k, d)] = bO (isT n d) := by
  show Option.map _ ((isT n d).map _) = _
  cases isT n d <;> rfl
theorem isn_non : opIsN .non = true := rfl
theorem isn_bl : opIsN (.bl q) = false := rfl
theorem isn_int : opIsN (.int I) = false := rfl
theorem isn_str : opIsN (.str x) = false := rfl
theorem isn_tup : opIsN (.tup xs) = false := rfl
theorem isn_lst : opIsN (.lst xs) = false := rfl
theorem isT_non : isT n .non = some false := rfl
theorem isT_bl : isT n (.bl q) = some (decide (n = 0 ∨ n = 1)) := rfl
theorem isT_int : isT n (.int I) = some (decide (n = 0)) := rfl
theorem isT_str : isT n (.str x) = some (decide (n = 2)) := rfl
theorem isT_lst : isT n (.lst xs) = some (decide (n = 3)) := rfl
theorem isT_tup : isT n (.tup xs) = some (decide (4 ≤ n)) := rfl
theorem o_adds (hz : a.length + b.length ≤ 100000) : opv .add S [(k, .str (mkS a)), (k1, .str (mkS b))] = some (.vl false, .str (mkS (a ++ b))) := by
  rw [opv_sadd (by rw [mk_len, mk_len]; exact hz), mk_app]
theorem o_lens (hz : a.length ≤ 100000) : opv .len S [(k, .str (mkS a))] = some (.vl false, .int a.length) := by
  show Option.map _ (if (mkS a).length ≤ sizeLine then some (D.int (mkS a).length) else none) = _
  rw [mk_len, if_pos (Z.small hz)]; rfl
def sO (o : Option Nat) : Option Vd := match o with
  | some c => some (.vl false, .str (mkS [c]))
  | none => none
theorem o_idxs (hz : a.length ≤ 100000) : opv .idx S [(k, .str (mkS a)), (k1, .int I)] = sO (atI a I) := by
  show (if (mkS a).length ≤ sizeLine then (atI (mkS a).cps.toList I).bind fun c => vT (.str ⟨#[c]⟩) else none) = _
  rw [mk_len, if_pos (Z.small hz), mk_cps]
  cases atI a I <;> rfl
theorem sO_s : sO (some n) = some (.vl false, .str (mkS [n])) := rfl
theorem atI_p {α : Type} {xs : List α} (h0 : 0 ≤ I) (h1 : I < xs.length) : atI xs I = xs[I.toNat]? := by
  unfold atI ixN
  rw [if_pos h0, if_pos h1]; rfl
theorem atI_n {α : Type} {xs : List α} (h0 : I < 0) (h1 : -(xs.length : Int) ≤ I) : atI xs I = xs[(I + xs.length).toNat]? := by
  unfold atI ixN
  rw [if_neg (by omega), if_pos h1]; rfl
def cutL (a : List Nat) (lo hi : Option Int) : List Nat := (a.drop (HT.sIx a.length 0 lo)).take (HT.sIx a.length a.length hi - HT.sIx a.length 0 lo)
theorem cut_mk {u v : Option Int} : cutS (mkS a) u v = mkS (cutL a u v) := by
  unfold cutS cutL
  rw [mk_len, mk_cps]; rfl
theorem o_slhs (hz : a.length ≤ 100000) : opv (.sl false true) S [(k, .str (mkS a)), (k1, .int I)] = some (.vl false, .str (mkS (cutL a none (some I)))) := by
  show (if (mkS a).length ≤ sizeLine then vT (.str (cutS (mkS a) none (some I))) else none) = _
  rw [mk_len, if_pos (Z.small hz), cut_mk]; rfl
theorem o_slls (hz : a.length ≤ 100000) : opv (.sl true false) S [(k, .str (mkS a)), (k1, .int I)] = some (.vl false, .str (mkS (cutL a (some I) none))) := by
  show (if (mkS a).length ≤ sizeLine then vT (.str (cutS (mkS a) (some I) none)) else none) = _
  rw [mk_len, if_pos (Z.small hz), cut_mk]; rfl
theorem o_sl2s (hz : a.length ≤ 100000) : opv (.sl true true) S [(k, .str (mkS a)), (k1, .int I), (k2, .int J)] = some (.vl false, .str (mkS (cutL a (some I) (some J)))) := by
  show (if (mkS a).length ≤ sizeLine then vT (.str (cutS (mkS a) (some I) (some J))) else none) = _
  rw [mk_len, if_pos (Z.small hz), cut_mk]; rfl
theorem sIx_p (h0 : 0 ≤ I) : HT.sIx n j (some I) = min I.toNat n := by
  show (if I < 0 then (I + (n : Int)).toNat else min I.toNat n) = _
  rw [if_neg (by omega)]
theorem sIx_n0 : HT.sIx n j none = j := rfl
theorem cut_hi (h0 : 0 ≤ I) : cutL a none (some I) = a.take I.toNat := by
  unfold cutL
  rw [sIx_p h0, sIx_n0, List.drop_zero, Nat.sub_zero]
  by_cases q : I.toNat ≤ a.length
  · rw [Nat.min_eq_left q]
  · rw [Nat.min_eq_right (by omega), List.take_length, List.take_of_length_le (by omega)]
theorem cut_lo (h0 : 0 ≤ I) : cutL a (some I) none = a.drop I.toNat := by
  unfold cutL
  rw [sIx_p h0, sIx_n0]
  by_cases q : I.toNat ≤ a.length
  · rw [Nat.min_eq_left q, List.take_of_length_le (by rw [List.length_drop]; omega)]
  · rw [Nat.min_eq_right (by omega), Nat.sub_self, List.take_zero, List.drop_eq_nil_of_le (by omega)]
theorem cut_2 (h0 : 0 ≤ I) (h1 : 0 ≤ J) : cutL a (some I) (some J) = (a.drop I.toNat).take (J.toNat - I.toNat) := by
  unfold cutL
  rw [sIx_p h0, sIx_p h1]
  by_cases q : I.toNat ≤ a.length
  · rw [Nat.min_eq_left q]
    by_cases q2 : J.toNat ≤ a.length
    · rw [Nat.min_eq_left q2]
    · rw [Nat.min_eq_right (by omega), List.take_of_length_le (by rw [List.length_drop]; omega), List.take_of_length_le (by rw [List.length_drop]; omega)]
  · rw [Nat.min_eq_right (show a.length ≤ I.toNat by omega), List.drop_eq_nil_of_le (show a.length ≤ a.length from Nat.le_refl _), List.drop_eq_nil_of_le (show a.length ≤ I.toNat by omega), List.take_nil, List.take_nil]
def lsK (ys : List D) (o : Option Bool) : Option Vd := match o with
  | some l => some (.fr 1 l, .lst ys)
  | none => none
def tpK (ys : List D) (o : Option Bool) : Option Vd := match o with
  | some l => some (norm (.vl l, .tup ys))
  | none => none
theorem listK_eq : listK S k xs ys = lsK ys (settle S k xs) := by
  unfold listK; cases settle S k xs <;> rfl
theorem tupK_eq : tupK S k xs ys = tpK ys (settle S k xs) := by
  unfold tupK; cases settle S k xs <;> rfl
theorem lsK_s : lsK ys (some l) = some (.fr 1 l, .lst ys) := rfl
theorem tpK_s : tpK ys (some l) = some (norm (.vl l, .tup ys)) := rfl
theorem o_sl1t : opv (.sl true false) S [(k, .tup (d :: xs)), (k1, .int 1)] = tpK xs (settle S k (d :: xs)) := by
  have e1 : HT.sIx (d :: xs).length 0 (some 1) = 1 := by
    rw [sIx_p (by decide)]; show min 1 (xs.length + 1) = 1; omega
  have e2 : cutD (d :: xs) (some 1) none = xs := by
    unfold cutD
    rw [e1]
    show ((d :: xs).drop 1).take ((d :: xs).length - 1) = xs
    show xs.take (xs.length + 1 - 1) = xs
    rw [Nat.add_sub_cancel, List.take_length]
  show (if HT.sIx (d :: xs).length 0 (some 1) = 0 ∧ HT.sIx (d :: xs).length (d :: xs).length none = (d :: xs).length then none else tupK S k (d :: xs) (cutD (d :: xs) (some 1) none)) = _
  rw [if_neg (by rw [e1]; exact fun z => absurd z.1 (by decide)), e2]
  exact tupK_eq
theorem o_inn : opv .inn S [(k, d), (k1, d1)] = bO (dIn d1 d) := by
  show Option.map _ ((dIn d1 d).map _) = _
  cases dIn d1 d <;> rfl
theorem o_nin : opv .nin S [(k, d), (k1, d1)] = bN (dIn d1 d) := by
  show Option.map _ ((dIn d1 d).map _) = _
  cases dIn d1 d <;> rfl
theorem in_sign : dIn (.str z) (.str (mkS [n])) = some (decide (n ∈ tl z)) := by
  show some (!(Builtin.Str.occurrences z ⟨#[n]⟩ 0 z.length 1).isEmpty) = _
  rw [PySem.StrLaws.found_one z n]
theorem in_signM : dIn (.str (mkS a)) (.str (mkS [n])) = some (decide (n ∈ a)) := in_sign
theorem tru_s (hz : a.length ≤ 100000) : truthD (.str (mkS a)) = some (!a.isEmpty) := by
  show (if (mkS a).length ≤ sizeLine then some (((mkS a).length : Int) != 0) else none) = _
  rw [mk_len, if_pos (Z.small hz)]
  cases a with
  | nil => rfl
  | cons c r =>
    have : (((c :: r).length : Int) != 0) = true := by
      simp only [List.length_cons, bne_iff_ne, ne_eq]; omega
    rw [this]; rfl
theorem itS2_m : itS2 S1 m (some (k, .str (mkS a))) = .ok (a.map (fun c => (false, .str (mkS [c]))), none, S1, m) := rfl
theorem o_lenl : opv .len S [(k, .lst xs)] = some (.vl false, .int xs.length) := rfl
theorem o_lent : opv .len S [(k, .tup xs)] = some (.vl false, .int xs.length) := rfl
theorem o_lend : opv .len S [(k, .dK ks xs)] = some (.vl false, .int ks.length) := rfl
def kdK (d : D) (o : Option Kd) : Option Vd := match o with
  | some k => some (norm (k, d))
  | none => none
def kdD (S : Sto) (k : Kd) (j : Nat) (o : Option D) : Option Vd := match o with
  | some d => kdK d (kidK S k j)
  | none => none
def kdJ (S : Sto) (k : Kd) (xs : List D) (o : Option Nat) : Option Vd := match o with
  | some j => kdD S k j xs[j]?
  | none => none
theorem kid_eq : kid S k xs I = kdJ S k xs (ixN xs.length I) := by
  unfold kid
  cases ixN xs.length I with
  | none => rfl
  | some j =>
    show (xs[j]?).bind _ = kdD S k j xs[j]?
    cases xs[j]? with
    | none => rfl
    | some d =>
      show (kidK S k j).map _ = kdK d (kidK S k j)
      cases kidK S k j <;> rfl
theorem kdJ_s : kdJ S k xs (some n) = kdD S k n xs[n]? := rfl
theorem kdD_s : kdD S k n (some d) = kdK d (kidK S k n) := rfl
theorem kdK_s : kdK d (some k) = some (norm (k, d)) := rfl
theorem kidK_v : kidK S (.vl l) n = some (.vl l) := rfl
theorem kidK_0 : kidK S (.fr 0 l) n = some (.vl l) := rfl
theorem kidK_1 : kidK S (.fr 1 l) n = some (.vl l) := rfl
theorem kidK_2 : kidK S (.fr (f + 2) l) n = some (.fr (f + 1) l) := rfl
def kkT (n i : Nat) (p : List Nat) (o : Option (Option Bx)) : Option Kd := match o with
  | some (some b) => some (if p.length + 1 < b.dp then .tn n (p ++ [i]) else .vl b.ln)
  | _ => none
theorem kidK_t : kidK S (.tn n p) i = kkT n i p S[n]? := by
  show (match S[n]? with
    | some (some b) => some (if p.length + 1 < b.dp then Kd.tn n (p ++ [i]) else .vl b.ln)
    | _ => none) = _
  unfold kkT; rfl
theorem kkT_s {bx : Bx} : kkT n i p (some (some bx)) = some (if p.length + 1 < bx.dp then .tn n (p ++ [i]) else .vl bx.ln) := rfl
theorem ixN_p (h0 : 0 ≤ I) (h1 : I < n) : ixN n I = some I.toNat := by
  unfold ixN; rw [if_pos h0, if_pos h1]
theorem ixN_m (h0 : I < 0) (h1 : -(n : Int) ≤ I) : ixN n I = some (I + n).toNat := by
  unfold ixN; rw [if_neg (by omega), if_pos h1]
theorem o_idxl : opv .idx S [(k, .lst xs), (k1, .int I)] = kid S k xs I := rfl
theorem o_idxt : opv .idx S [(k, .tup xs), (k1, .int I)] = kid S k xs I := rfl
def isStr : D → Bool
  | .str _ => true
  | _ => false
def isInt : D → Bool
  | .int _ => true
  | _ => false
def isBl : D → Bool
  | .bl _ => true
  | _ => false
theorem isStr_i {x : Str} : isStr (.str x) = true := Eq.trans rfl rfl
theorem isInt_i {x : Int} : isInt (.int x) = true := Eq.trans rfl rfl
theorem isBl_i {x : Bool} : isBl (.bl x) = true := Eq.trans rfl rfl
def strD : D → Str
  | .str x => x
  | _ => mkS []
def intD : D → Int
  | .int i => i
  | _ => 0
def blD : D → Bool
  | .bl b => b
  | _ => false
def strAt (xs : List D) (n : Nat) : Str := match xs[n]? with
  | some d => strD d
  | none => mkS []
def intAt (xs : List D) (n : Nat) : Int := match xs[n]? with
  | some d => intD d
  | none => 0
def blAt (xs : List D) (n : Nat) : Bool := match xs[n]? with
  | some d => blD d
  | none => false
theorem get_str (ha : xs.all isStr = true) (h1 : n < xs.length) : xs[n]? = some (.str (strAt xs n)) := by
  have e := List.getElem?_eq_getElem h1
  have := List.all_eq_true.mp ha _ (List.getElem_mem h1)
  have key : ∀ d : D, xs[n]? = some d → isStr d = true → xs[n]? = some (.str (strAt xs n)) := fun d h1 h2 => by
    unfold strAt
    rw [h1]
    cases d <;> first
      | rfl
      | cases h2
  exact key _ e this
theorem get_int (ha : xs.all isInt = true) (h1 : n < xs.length) : xs[n]? = some (.int (intAt xs n)) := by
  have e := List.getElem?_eq_getElem h1
  have := List.all_eq_true.mp ha _ (List.getElem_mem h1)
  have key : ∀ d : D, xs[n]? = some d → isInt d = true → xs[n]? = some (.int (intAt xs n)) := fun d h1 h2 => by
    unfold intAt
    rw [h1]
    cases d <;> first
      | rfl
      | cases h2
  exact key _ e this
theorem get_bl (ha : xs.all isBl = true) (h1 : n < xs.length) : xs[n]? = some (.bl (blAt xs n)) := by
  have e := List.getElem?_eq_getElem h1
  have := List.all_eq_true.mp ha _ (List.getElem_mem h1)
  have key : ∀ d : D, xs[n]? = some d → isBl d = true → xs[n]? = some (.bl (blAt xs n)) := fun d h1 h2 => by
    unfold blAt
    rw [h1]
    cases d <;> first
      | rfl
      | cases h2
  exact key _ e this
theorem o_tup {ln : Bool} (ha : as.all (fits dp ln) = true) (hz : as.length ≤ 100000) : opv (.tupD dp ln) S as = some (norm (.fr (dp + 1) ln, .tup (as.map (·.2)))) := if_pos ⟨ha, Z.small hz⟩
theorem o_lst {ln : Bool} (ha : as.all (fits dp ln) = true) (hz : as.length ≤ 100000) : opv (.lstD dp ln) S as = some (.fr (dp + 1) ln, .lst (as.map (·.2))) := if_pos ⟨ha, Z.small hz⟩
theorem o_lst0 {ln : Bool} : opv (.lstD dp ln) S [] = some (.fr (dp + 1) ln, .lst []) := o_lst (as := []) rfl (Nat.zero_le _)
theorem o_tup0 {ln : Bool} : opv (.tupD dp ln) S [] = some (.vl false, .tup []) := o_tup (as := []) rfl (Nat.zero_le _)
theorem o_emK : opv .emK S [] = some (.fr 9 false, .dK [] []) := rfl
theorem o_emT : opv .emT S [] = some (.fr 9 false, .dT [] []) := rfl
def fO (S : Sto) (k : Kd) (xs : List D) (o : Option Nat) : Option Vd := match o with
  | some j => kid S k xs j
  | none => none
theorem o_fld : opv (.fld x) S [(k, .obj n fs xs)] = fO S k xs (posOf fs x) := by
  show (posOf fs x).bind _ = _
  cases posOf fs x <;> rfl
theorem fO_s : fO S k xs (some n) = kid S k xs n := rfl
theorem o_list1 : opv .list1 S [(k, .lst xs)] = lsK xs (settle S k xs) := listK_eq
theorem o_list1t : opv .list1 S [(k, .tup xs)] = lsK xs (settle S k xs) := listK_eq
theorem o_list1d : opv .list1 S [(k, .dK ks xs)] = some (.fr 1 false, .lst (ks.map keyD)) := rfl
theorem o_tup1 : opv .tuple1 S [(k, .lst xs)] = tpK xs (settle S k xs) := tupK_eq
def adL (xs ys : List D) (a b : Option Bool) : Option Vd := match a, b with
  | some l1, some l2 => some (.fr 1 (l1 || l2), .lst (xs ++ ys))
  | _, _ => none
def adT (xs ys : List D) (a b : Option Bool) : Option Vd := match a, b with
  | some l1, some l2 => some (norm (.vl (l1 || l2), .tup (xs ++ ys)))
  | _, _ => none
theorem o_addl (hz : xs.length + ys.length ≤ 100000) : opv .add S [(k, .lst xs), (k1, .lst ys)] = adL xs ys (settle S k xs) (settle S k1 ys) := by
  show (if xs.length + ys.length ≤ sizeLine then (settle S k xs).bind fun l1 => (settle S k1 ys).map fun l2 => ((.fr 1 (l1 || l2), .lst (xs ++ ys)) : Vd) else none) = _
  rw [if_pos (Z.small hz)]
  cases settle S k xs with
  | none => rfl
  | some a => cases settle S k1 ys <;> rfl
theorem adL_s {u v : Bool} : adL xs ys (some u) (some v) = some (.fr 1 (u || v), .lst (xs ++ ys)) := rfl
theorem o_addt (hz : xs.length + ys.length ≤ 100000) : opv .add S [(k, .tup xs), (k1, .tup ys)] = adT xs ys (settle S k xs) (settle S k1 ys) := by
  show (if xs.length + ys.length ≤ sizeLine then (settle S k xs).bind fun l1 => (settle S k1 ys).map fun l2 => norm (.vl (l1 || l2), .tup (xs ++ ys)) else none) = _
  rw [if_pos (Z.small hz)]
  cases settle S k xs with
  | none => rfl
  | some a => cases settle S k1 ys <;> rfl
theorem adT_s {u v : Bool} : adT xs ys (some u) (some v) = some (norm (.vl (u || v), .tup (xs ++ ys))) := rfl
theorem mt_append (hf : fits n ln A = true) (hz : xs.length < 100000) : mutv .append n ln (.lst xs) [A] = some (.lst (xs ++ [A.2]), .vl false, .non) := by
  show (if fits n ln A = true ∧ xs.length < sizeLine then some (D.lst (xs ++ [A.2]), ((.vl false, .non) : Vd)) else none) = _
  rw [if_pos ⟨hf, by rw [sizeLine_eq]; omega⟩]
def poO (n : Nat) (ln : Bool) (xs : List D) (o : Option D) : Option (D × Vd) := match o with
  | some x => some (.lst xs.dropLast, norm (if n = 0 then .vl ln else .fr n ln, x))
  | none => none
theorem mt_pop0 : mutv .pop0 n ln (.lst xs) [] = poO n ln xs xs[xs.length - 1]? := by
  show (xs[xs.length - 1]?).map _ = _
  cases xs[xs.length - 1]? <;> rfl
theorem poO_s : poO n ln xs (some d) = some (.lst xs.dropLast, norm (if n = 0 then .vl ln else .fr n ln, d)) := rfl
theorem mt_reverse : mutv .reverse n ln (.lst xs) [] = some (.lst xs.reverse, .vl false, .non) := rfl
theorem mt_clear : mutv .clear n ln (.lst xs) [] = some (.lst [], .vl false, .non) := rfl
theorem mt_extend (hz : xs.length + ys.length ≤ 100000) (hi : immL ys = true) : mutv .extend n ln (.lst xs) [(k, .lst ys)] = some (.lst (xs ++ ys), .vl false, .non) := by
  show (if _ then _ else _) = _
  rw [if_pos ⟨Z.small hz, by rw [hi]; rfl⟩]
theorem tm_append : tyMut .append (.lst xs) (.lst ys) = true := Eq.trans rfl rfl
theorem tm_extend : tyMut .extend (.lst xs) (.lst ys) = true := Eq.trans rfl rfl
theorem tm_pop0 : tyMut .pop0 (.lst xs) (.lst ys) = true := Eq.trans rfl rfl
theorem tm_pop1 : tyMut .pop1 (.lst xs) (.lst ys) = true := Eq.trans rfl rfl
theorem tm_remove : tyMut .remove (.lst xs) (.lst ys) = true := Eq.trans rfl rfl
theorem tm_reverse : tyMut .reverse (.lst xs) (.lst ys) = true := Eq.trans rfl rfl
theorem tm_clear : tyMut .clear (.lst xs) (.lst ys) = true := Eq.trans rfl rfl
theorem tm_insert : tyMut .insert (.lst xs) (.lst ys) = true := Eq.trans rfl rfl
theorem o_find1 : opv .find1 S [(k, .str x), (k1, .str y)] = some (.vl false, .int (Txt.find x y)) := rfl
theorem o_find2 : opv .find2 S [(k, .str x), (k1, .str y), (k2, .int I)] = some (.vl false, .int (Txt.find3 x y I)) := rfl
end
end Y
namespace Y
open Z
theorem intAt_le {xs : List D} {n : Nat} {a b : Int} (ha : xs.all (fun d => decide (a ≤ intD d ∧ intD d ≤ b)) = true) (hn : n < xs.length) : a ≤ intAt xs n ∧ intAt xs n ≤ b := by
  have e := List.getElem?_eq_getElem hn
  unfold intAt
  rw [e]
  exact of_decide_eq_true (List.all_eq_true.mp ha _ (List.getElem_mem hn))
theorem strAt_P {xs : List D} {n : Nat} {p : PySem.Str → Bool} (ha : xs.all (fun d => p (strD d)) = true) (hn : n < xs.length) : p (strAt xs n) = true := by
  have e := List.getElem?_eq_getElem hn
  unfold strAt
  rw [e]
  exact List.all_eq_true.mp ha _ (List.getElem_mem hn)
end Y

namespace Y
open Z PySem L2 TL
section
variable {S S1 : Sto} {k k0 k1 k2 : Kd} {d d0 d1 d2 d3 : D} {x y z : Str} {I J N : Int} {a b : List Nat} {P : Pg} {n f : Nat} {as : List (Bool × D)}
/-- the signs of a whole number -/
def intL (i : Int) : List Nat := if i < 0 then 45 :: numL i.natAbs else numL i.natAbs
theorem str_int (i : Int) : ((toString i : String) : PySem.Str) = mkS (intL i) := by
  by_cases h : i < 0
  · obtain ⟨m, rfl⟩ : ∃ m : Nat, i = Int.negSucc m := by
      cases i with
      | ofNat m => exact absurd h (by simp)
      | negSucc m => exact ⟨m, rfl⟩
    apply ext_tl
    show tl (Str.ofString ("-" ++ Nat.repr (m + 1))) = intL (Int.negSucc m)
    rw [tl_ofString]
    unfold intL
    rw [if_pos h]
    have e := tl_num (m + 1)
    have e2 : (toString (((m + 1 : Nat)) : Int)) = Nat.repr (m + 1) := rfl
    rw [e2, tl_ofString] at e
    show ("-" ++ Nat.repr (m + 1)).toList.map Char.toNat = 45 :: numL (m + 1)
    rw [← e, String.toList_append, List.map_append]
    rfl
  · obtain ⟨m, rfl⟩ : ∃ m : Nat, i = (m : Int) := ⟨i.toNat, by omega⟩
    apply ext_tl
    show tl (Str.ofString (toString ((m : Nat) : Int))) = intL (m : Int)
    rw [tl_num]
    unfold intL
    rw [if_neg h]
    rfl
theorem o_str1 (h1 : -(10 ^ 130) ≤ I) (h2 : I ≤ 10 ^ 130) : opv .str1 S [(k, .int I)] = some (.vl false, .str (mkS (intL I))) := by
  have l1 := log_small (n := I.natAbs) (k := 500) (Nat.lt_of_le_of_lt (show I.natAbs ≤ 10 ^ 130 by omega) (show (10 : Nat) ^ 130 < 2 ^ 500 by decide +kernel)) (by decide)
  show Option.map _ (if I.natAbs.log2 < 1920 then some (D.str (toString I)) else none) = _
  rw [if_pos (by omega)]
  show some (((.vl false, .str ((toString I : String) : PySem.Str)) : Vd)) = _
  rw [str_int]
theorem o_int1 (h1 : NumText.AllDigits a) (h2 : a ≠ []) (h3 : a.length ≤ 640) : opv .int1 S [(k, .str (mkS a))] = some (.vl false, .int (NumText.digitsVal a)) := by
  have e := intText_digits (x := mkS a) h1 h2 (by rw [mk_len]; omega)
  show Option.map _ (if (mkS a).length ≤ 640 then (PySem.intText? (mkS a)).map fun n => D.int n else none) = _
  rw [mk_len, if_pos h3, e]; rfl
theorem o_int1i : opv .int1 S [(k, .int I)] = some (.vl false, .int I) := rfl
theorem o_int1b {q : Bool} : opv .int1 S [(k, .bl q)] = some (.vl false, .int (if q then 1 else 0)) := rfl
theorem fnr_run (h : fnr P n f as = .ok (k, d)) : ∃ k' S', run P n f as [] = .ok (k', d, S') := by
  unfold fnr at h
  cases e : run P n f as [] with
  | ok r =>
    rw [e] at h
    obtain ⟨k', d', S'⟩ := r
    have h' : outP (k', d', S') = .ok (k, d) := h
    unfold outP at h'
    dsimp only at h'
    cases h1 : d'.noBx with
    | false => rw [h1] at h'; cases h'
    | true =>
      rw [h1, if_pos rfl] at h'
      cases h2 : d'.imm with
      | true => rw [h2] at h'; cases h'; exact ⟨_, _, rfl⟩
      | false =>
        rw [h2, if_neg (by decide)] at h'
        split at h' <;> cases h' <;> exact ⟨_, _, rfl⟩
  | exc c s => rw [e] at h; cases h
  | stuck => rw [e] at h; cases h
theorem range_0 : List.range 0 = [] := rfl
theorem range_1 : List.range 1 = [0] := rfl
theorem range_2 : List.range 2 = [0, 1] := rfl
theorem range_3 : List.range 3 = [0, 1, 2] := rfl
theorem range_4 : List.range 4 = [0, 1, 2, 3] := rfl
theorem range_5 : List.range 5 = [0, 1, 2, 3, 4] := rfl
theorem sum_ints (zs : List Int) : opv .sumL S [(k, .lst (zs.map .int))] = some (.vl false, .int zs.sum) := by
  show Option.map _ ((intsOf (zs.map D.int)).map _) = _
  rw [intsOf_map]; rfl
mutual
def okD : Nat → D → Bool
  | _, .non => true
  | _, .bl _ => true
  | _, .int _ => true
  | _, .str x => x.cps.all (· < 0x110000)
  | n + 1, .tup xs => okL n xs
  | n + 1, .lst xs => okL n xs
  | _, _ => false
def okL : Nat → List D → Bool
  | _, [] => true
  | n, d :: ds => okD n d && okL n ds
end
mutual
theorem okD_P : ∀ {n : Nat} {d : D}, okD n d = true → ∃ p, d.toP = some p ∧ p.canLay0 = true ∧ p.depth ≤ n
  | _, .non, _ => ⟨_, rfl, rfl, Nat.zero_le _⟩
  | _, .bl _, _ => ⟨_, rfl, rfl, Nat.zero_le _⟩
  | _, .int _, _ => ⟨_, rfl, rfl, Nat.zero_le _⟩
  | 0, .str x, h => ⟨.str x, rfl, h, Nat.zero_le _⟩
  | n + 1, .str x, h => ⟨.str x, rfl, h, Nat.zero_le _⟩
  | 0, .tup _, h => by cases h
  | 0, .lst _, h => by cases h
  | n + 1, .tup xs, h => by
    obtain ⟨ps, h1, h2, h3⟩ := okL_P (show okL n xs = true from h)
    exact ⟨.tuple ps, by show (toPL xs).map _ = _; rw [h1]; rfl, h2, Nat.succ_le_succ h3⟩
  | n + 1, .lst xs, h => by
    obtain ⟨ps, h1, h2, h3⟩ := okL_P (show okL n xs = true from h)
    exact ⟨.list ps, by show (toPL xs).map _ = _; rw [h1]; rfl, h2, Nat.succ_le_succ h3⟩
  | 0, .dK _ _, h => by cases h
  | 0, .dT _ _, h => by cases h
  | 0, .obj _ _ _, h => by cases h
  | 0, .bx _, h => by cases h
  | _ + 1, .dK _ _, h => by cases h
  | _ + 1, .dT _ _, h => by cases h
  | _ + 1, .obj _ _ _, h => by cases h
  | _ + 1, .bx _, h => by cases h
theorem okL_P : ∀ {n : Nat} {ds : List D}, okL n ds = true → ∃ ps, toPL ds = some ps ∧ PyData.canLayAll0 ps = true ∧ PyData.depthAll ps ≤ n
  | _, [], _ => ⟨[], rfl, rfl, Nat.zero_le _⟩
  | n, d :: ds, h => by
    obtain ⟨h1, h2⟩ := Bool.and_eq_true_iff.mp (show (okD n d && okL n ds) = true from h)
    obtain ⟨p, a1, a2, a3⟩ := okD_P h1
    obtain ⟨ps, b1, b2, b3⟩ := okL_P h2
    refine ⟨p :: ps, ?_, ?_, Nat.max_le.mpr ⟨a3, b3⟩⟩
    · show d.toP.bind (fun p => (toPL ds).map fun ps => p :: ps) = _
      rw [a1, b1]; rfl
    · show (p.canLay0 && PyData.canLayAll0 ps) = true
      rw [a2, b2]; rfl
end
theorem eqD_self (h : okD 64 d = true) : eqD d d = some true := by
  obtain ⟨p, h1, h2, h3⟩ := okD_P h
  have e : (d.toP.bind fun p => d.toP.bind fun q => if SeqAt.shaped p && SeqAt.shaped q then some (PyData.eqv p q) else none) = some true := by
    rw [h1]
    have hs : SeqAt.shaped p = true := by
      unfold SeqAt.shaped
      rw [h2, decide_eq_true h3]; rfl
    show (if (SeqAt.shaped p && SeqAt.shaped p) = true then some (PyData.eqv p p) else none) = _
    rw [hs, SeqAt.eqv_refl p h2]; rfl
  cases d <;> first
    | exact e
    | (show some (decide (_ = _)) = _; rw [decide_eq_true rfl])
theorem okD_mk {n : Nat} (h : a.all (· < 0x110000) = true) : okD n (.str (mkS a)) = true := by
  have : (mkS a).cps.all (· < 0x110000) = true := by
    show a.toArray.all (· < 0x110000) = true
    simpa using h
  cases n <;> exact this
theorem okL_map {α : Type} {g : α → D} {n : Nat} {zs : List α} (h : ∀ w ∈ zs, okD n (g w) = true) : okL n (zs.map g) = true := by
  induction zs with
  | nil => cases n <;> rfl
  | cons z zs ih =>
    have e : okL n ((z :: zs).map g) = (okD n (g z) && okL n (zs.map g)) := by cases n <;> rfl
    rw [e, h z List.mem_cons_self, ih fun w hw => h w (List.mem_cons_of_mem _ hw)]; rfl
theorem okD_int {n : Nat} : okD n (.int I) = true := by cases n <;> rfl
theorem okD_bl {n : Nat} {q : Bool} : okD n (.bl q) = true := by cases n <;> rfl
theorem okD_non {n : Nat} : okD n .non = true := by cases n <;> rfl
theorem okL_c {n : Nat} {ds : List D} : okL n (d :: ds) = (okD n d && okL n ds) := by cases n <;> rfl
theorem okL_n {n : Nat} : okL n [] = true := by cases n <;> rfl
theorem okD_tup {n : Nat} {ds : List D} : okD (n + 1) (.tup ds) = okL n ds := rfl
theorem okD_lst {n : Nat} {ds : List D} : okD (n + 1) (.lst ds) = okL n ds := rfl
/-- a walk by an invariant of what was taken -/
theorem forGo_to {α : Type} {g : α → Bool × D} {F : Bool × D → EnvD → Sto → SO} (Inv : List α → EnvD → Sto → Prop) : ∀ (post pre : List α) (env : EnvD) (S : Sto), Inv pre env S →
    (∀ pre x post', pre ++ x :: post' = pre ++ x :: post' → x ∈ post → ∀ e s, Inv pre e s → ∃ e' s', (F (g x) e s = .nx e' s' ∨ F (g x) e s = .ct e' s') ∧ Inv (pre ++ [x]) e' s') →
    ∃ e' s', forGo (post.map g) F env S = .nx e' s' ∧ Inv (pre ++ post) e' s'
  | [], pre, env, S, h, _ => ⟨env, S, rfl, by rw [List.append_nil]; exact h⟩
  | x :: post, pre, env, S, h, st => by
    obtain ⟨e1, s1, h1, h2⟩ := st pre x post rfl List.mem_cons_self env S h
    obtain ⟨e2, s2, h3, h4⟩ := forGo_to Inv post (pre ++ [x]) e1 s1 h2 (fun pre y post' q hy => st pre y post' q (List.mem_cons_of_mem _ hy))
    refine ⟨e2, s2, ?_, by rw [List.append_assoc] at h4; exact h4⟩
    rw [List.map_cons, forGo_c]
    rcases h1 with h1 | h1 <;> rw [h1] <;> exact h3
theorem atI_ex {xs : List Nat} {p : Nat → Bool} {i : Int} (ha : xs.all p = true) (h0 : 0 ≤ i) (h1 : i < xs.length) : ∃ c, atI xs i = some c ∧ p c = true := by
  have h : i.toNat < xs.length := by omega
  refine ⟨xs[i.toNat], ?_, List.all_eq_true.mp ha _ (List.getElem_mem h)⟩
  rw [atI_p h0 h1]
  exact List.getElem?_eq_getElem h
theorem get_last {xs : List D} : (xs ++ [d])[(-1 + ((xs ++ [d]).length : Int)).toNat]? = some d := by
  have e : (-1 + ((xs ++ [d]).length : Int)).toNat = xs.length := by
    rw [List.length_append]; show (-1 + ((xs.length + 1 : Nat) : Int)).toNat = _; omega
  rw [e, List.getElem?_append_right (Nat.le_refl _), Nat.sub_self]; rfl
theorem get_lastn {xs : List D} : (xs ++ [d])[(xs ++ [d]).length - 1]? = some d := by
  rw [List.length_append]
  show (xs ++ [d])[xs.length + 1 - 1]? = _
  rw [Nat.add_sub_cancel, List.getElem?_append_right (Nat.le_refl _), Nat.sub_self]; rfl
theorem drop_last {xs : List D} : (xs ++ [d]).dropLast = xs := List.dropLast_concat
def whB (Γ : Ga) (c : Cd) (b : List Z.St) (e : EnvD) (s : Sto) : Option SO := match tst Γ c e s with
    | .ok (t, s1, m) => if m then some .stuck else if t then some (exs Γ b e s) else none
    | .exc c s1 => some (.exc c e s1)
    | .stuck => some .stuck
def whA (Γ : Ga) (b : List Z.St) (e : EnvD) (s : Sto) (r : Z.R (Bool × Sto × Bool)) : Option SO := match r with
    | .ok (t, s1, m) => if m then some .stuck else if t then some (exs Γ b e s) else none
    | .exc c s1 => some (.exc c e s1)
    | .stuck => some .stuck
theorem whB_eq {Γ : Ga} {c : Cd} {b : List Z.St} {e : EnvD} {s : Sto} : whB Γ c b e s = whA Γ b e s (tst Γ c e s) := rfl
theorem whA_q {Γ : Ga} {b : List Z.St} {e : EnvD} {s s1 : Sto} {t : Bool} : whA Γ b e s (.ok (t, s1, false)) = if t = true then some (exs Γ b e s) else none := rfl
theorem ex_whl {Γ : Ga} {c : Cd} {b : List Z.St} {e : EnvD} {s : Sto} : ex1 Γ (.whl c b) e s = whGo (whB Γ c b) whMost e s := by
  rw [ex1]; rfl
/-- K turns, and then no more -/
theorem wh_inv {F : EnvD → Sto → Option SO} (Inv : Nat → EnvD → Sto → Prop) (step : ∀ k e s, Inv (k + 1) e s → ∃ e' s', (F e s = some (.nx e' s') ∨ F e s = some (.ct e' s')) ∧ Inv k e' s') (stop : ∀ e s, Inv 0 e s → F e s = none) : ∀ (K fuel : Nat), K < fuel → ∀ {e : EnvD} {s : Sto}, Inv K e s → ∃ e' s', whGo F fuel e s = .nx e' s' ∧ Inv 0 e' s'
  | _, 0, h, _, _, _ => absurd h (Nat.not_lt_zero _)
  | 0, fuel + 1, _, e, s, i => by
    refine ⟨e, s, ?_, i⟩
    show (match F e s with
      | none => Z.SO.nx e s
      | some (.nx e s) => whGo F fuel e s
      | some (.ct e s) => whGo F fuel e s
      | some o => o) = _
    rw [stop e s i]
  | K + 1, fuel + 1, h, e, s, i => by
    obtain ⟨e1, s1, h1, h2⟩ := step K e s i
    obtain ⟨e2, s2, h3, h4⟩ := wh_inv Inv step stop K fuel (Nat.lt_of_succ_lt_succ h) h2
    refine ⟨e2, s2, ?_, h4⟩
    show (match F e s with
      | none => Z.SO.nx e s
      | some (.nx e s) => whGo F fuel e s
      | some (.ct e s) => whGo F fuel e s
      | some o => o) = _
    rcases h1 with h1 | h1 <;> rw [h1] <;> exact h3
/-- a walk each of whose turns keeps an invariant -/
theorem forGo_all {α : Type} {g : α → Bool × D} {F : Bool × D → EnvD → Sto → SO} (Inv : EnvD → Sto → Prop) (xs : List α) {env : EnvD} {S : Sto} (h : Inv env S)
    (st : ∀ x ∈ xs, ∀ e s, Inv e s → ∃ e' s', (F (g x) e s = .nx e' s' ∨ F (g x) e s = .ct e' s') ∧ Inv e' s') : ∃ e' s', forGo (xs.map g) F env S = .nx e' s' ∧ Inv e' s' := by
  induction xs generalizing env S with
  | nil => exact ⟨env, S, rfl, h⟩
  | cons x xs ih =>
    obtain ⟨e1, s1, h1, h2⟩ := st x List.mem_cons_self env S h
    obtain ⟨e2, s2, h3, h4⟩ := ih h2 fun y hy => st y (List.mem_cons_of_mem _ hy)
    refine ⟨e2, s2, ?_, h4⟩
    rw [List.map_cons, forGo_c]
    rcases h1 with h1 | h1 <;> rw [h1] <;> exact h3
end
section
variable {Γ : Ga} {env : EnvD} {S S1 : Sto} {k m m' c c' i f n : Nat} {o : Option Nat} {s b : List Z.St} {d : D} {kd : Kd} {P : Pg} {l : Bool}
def hotG (Γ : Ga) (m k : Nat) : Ga := ⟨Γ.call, Γ.cls, some (m, k), Γ.callx, Γ.nx⟩
def trX (Γ : Ga) (c : Nat) (o : Option Nat) (s : List Z.St) (k : Nat) (e : EnvD) (S : Sto) : SO := if Γ.nx ≤ k then .stuck else if subX k (some c) then suiteR o (exs (hotG Γ S.length k) s (bindX o e S.length) (S ++ [none])) else .exc k e S
def trA (Γ : Ga) (c : Nat) (o : Option Nat) (s : List Z.St) : SO → SO
  | .exc k e S => trX Γ c o s k e S
  | r => r
def tr0A : SO → SO
  | .exc _ _ _ => .stuck
  | r => r
def isXA (o : Option Nat) (S : Sto) : Option Nat → R Res
  | some c => .ok (.vl false, .bl (subX c o), S, false)
  | none => .stuck
def xoA : Option (Option (Bool × D)) → Option (Nat × Nat) → Option Nat
  | some (some (_, .bx m)), some (m', c) => if m = m' then some c else none
  | _, _ => none
def fxr (P : Pg) (f c : Nat) : R (Kd × D) := (runX P f c).nox.bind outP
def cxR (S : Sto) : R (Kd × D) → R Res
  | .ok (k, d) => .ok (k, d, S, false)
  | .exc c s => .exc c s
  | .stuck => .stuck
def cxA (Γ : Ga) (f : Nat) (S : Sto) : Option Nat → R Res
  | some c => cxR S ((Γ.callx f c).nox.bind outP)
  | none => .stuck
theorem ex_tr : ex1 Γ (.tr b c o s) env S = trA Γ c o s (exs Γ b env S) := by
  rw [ex1]
  cases exs Γ b env S <;> rfl
theorem ex_tr0 : ex1 Γ (.tr0 b) env S = tr0A (exs Γ b env S) := by
  rw [ex1]
  cases exs Γ b env S <;> rfl
theorem trA_nx : trA Γ c o s (.nx env S) = .nx env S := Eq.trans rfl rfl
theorem trA_ct : trA Γ c o s (.ct env S) = .ct env S := Eq.trans rfl rfl
theorem trA_ret : trA Γ c o s (.ret kd d S) = .ret kd d S := Eq.trans rfl rfl
theorem trA_ex : trA Γ c o s (.exc k env S) = if Γ.nx ≤ k then .stuck else if subX k (some c) = true then suiteR o (exs (hotG Γ S.length k) s (bindX o env S.length) (S ++ [none])) else .exc k env S := Eq.trans rfl rfl
theorem tr0A_nx : tr0A (.nx env S) = .nx env S := Eq.trans rfl rfl
theorem tr0A_ct : tr0A (.ct env S) = .ct env S := Eq.trans rfl rfl
theorem tr0A_ret : tr0A (.ret kd d S) = .ret kd d S := Eq.trans rfl rfl
theorem subX_s : subX k (some c) = (c == 0 || c == k) := Eq.trans rfl rfl
theorem subX_n : subX k none = true := Eq.trans rfl rfl
theorem suiteR_nx : suiteR o (.nx env S) = .nx (goneX o env) S := Eq.trans rfl rfl
theorem suiteR_ct : suiteR o (.ct env S) = .ct (goneX o env) S := Eq.trans rfl rfl
theorem suiteR_ret : suiteR o (.ret kd d S) = .ret kd d S := Eq.trans rfl rfl
theorem goneX_n : goneX none env = env := Eq.trans rfl rfl
theorem goneX_s : goneX (some i) env = env.set i none := Eq.trans rfl rfl
theorem bindX_n : bindX none env m = env := Eq.trans rfl rfl
theorem bindX_s : bindX (some i) env m = env.set i (some (true, .bx m)) := Eq.trans rfl rfl
theorem hotG_nx : (hotG Γ m k).nx = Γ.nx := Eq.trans rfl rfl
theorem hotG_cls : (hotG Γ m k).cls = Γ.cls := Eq.trans rfl rfl
theorem hotG_call : (hotG Γ m k).call = Γ.call := Eq.trans rfl rfl
theorem gam_nx : (gam P n).nx = P.nx := Eq.trans rfl rfl
theorem ev_isX : ev Γ (.isX o i) env S = isXA o S (xOf Γ env i) := by
  rw [ev]
  cases xOf Γ env i <;> rfl
theorem ev_callX : ev Γ (.callX f i) env S = cxA Γ f S (xOf Γ env i) := by
  rw [ev]
  cases xOf Γ env i with
  | none => rfl
  | some c =>
    show ((Γ.callx f c).nox.bind outP).bind _ = cxR S _
    cases (Γ.callx f c).nox.bind outP <;> rfl
theorem xOf_h : xOf (hotG Γ m k) env i = xoA env[i]? (some (m, k)) := by
  unfold xOf
  show (match env[i]?, (some (m, k) : Option (Nat × Nat)) with
    | some (some (_, .bx m)), some (m', c) => if m = m' then some c else none
    | _, _ => none) = _
  rfl
theorem xoA_s : xoA (some (some (l, .bx m))) (some (m', c)) = if m = m' then some c else none := Eq.trans rfl rfl
theorem isXA_s : isXA o S (some c) = .ok (.vl false, .bl (subX c o), S, false) := Eq.trans rfl rfl
theorem cxA_s : cxA (hotG (gam P n) m k) f S (some c) = cxR S (fxr P f c) := Eq.trans rfl rfl
theorem cxR_ok : cxR S (.ok (kd, d)) = .ok (kd, d, S, false) := Eq.trans rfl rfl
end
end Y

namespace Y
open Z PySem L2 TL
def kT (a : List Nat) : Key := .inr (mkS a)
def kI (i : Int) : Key := .inl i
def sT (a : List Nat) : D := .str (mkS a)
theorem mkS_inj {a b : List Nat} (h : mkS a = mkS b) : a = b := congrArg tl h
theorem kT_inj {a b : List Nat} : kT a = kT b ↔ a = b := ⟨fun h => mkS_inj (Sum.inr.inj h), fun h => by rw [h]⟩
theorem kI_inj {a b : Int} : kI a = kI b ↔ a = b := ⟨fun h => Sum.inl.inj h, fun h => by rw [h]⟩
theorem keyD_T (ns : List (List Nat)) : (ns.map kT).map keyD = ns.map sT := by rw [List.map_map]; rfl
theorem keyD_I (ns : List Int) : (ns.map kI).map keyD = ns.map D.int := by rw [List.map_map]; rfl
/-- where a name stands -/
def pT (ns : List (List Nat)) (a : List Nat) : Option Nat := ns.findIdx? fun b => decide (b = a)
def pI (ns : List Int) (a : Int) : Option Nat := ns.findIdx? fun b => decide (b = a)
theorem findIdx_map {α β : Type} [DecidableEq α] [DecidableEq β] (g : α → β) (hg : ∀ a b, g a = g b ↔ a = b) (a : α) : ∀ xs : List α, (xs.map g).findIdx? (fun q => decide (q = g a)) = xs.findIdx? (fun q => decide (q = a))
  | [] => rfl
  | x :: xs => by
    rw [List.map_cons, List.findIdx?_cons, List.findIdx?_cons, findIdx_map g hg a xs]
    have : decide (g x = g a) = decide (x = a) := decide_eq_decide.mpr (hg x a)
    rw [this]
theorem posOf_T (ns : List (List Nat)) (a : List Nat) : posOf (ns.map kT) (.inr (mkS a)) = pT ns a := findIdx_map kT (fun _ _ => kT_inj) a ns
theorem posOf_I (ns : List Int) (a : Int) : posOf (ns.map kI) (.inl a) = pI ns a := findIdx_map kI (fun _ _ => kI_inj) a ns
theorem find_someI {α : Type} [DecidableEq α] {xs : List α} {a : α} : (xs.findIdx? fun b => decide (b = a)).isSome = true ↔ a ∈ xs := by
  rw [List.findIdx?_isSome, List.any_eq_true]
  exact ⟨fun ⟨x, h1, h2⟩ => of_decide_eq_true h2 ▸ h1, fun h => ⟨a, h, decide_eq_true rfl⟩⟩
theorem find_someD {α : Type} [DecidableEq α] {xs : List α} {a : α} {inst : Decidable (a ∈ xs)} : (xs.findIdx? fun b => decide (b = a)).isSome = @decide (a ∈ xs) inst := by
  by_cases h : a ∈ xs
  · rw [find_someI.mpr h]; exact (decide_eq_true h).symm
  · rw [Bool.eq_false_iff.mpr fun z => h (find_someI.mp z)]; exact (decide_eq_false h).symm
theorem pT_none {ns : List (List Nat)} {a : List Nat} (h : a ∉ ns) : pT ns a = none :=
  Option.not_isSome_iff_eq_none.mp fun z => h (find_someI.mp z)
theorem pI_none {ns : List Int} {a : Int} (h : a ∉ ns) : pI ns a = none :=
  Option.not_isSome_iff_eq_none.mp fun z => h (find_someI.mp z)
theorem at_pos {α : Type} [BEq α] [LawfulBEq α] [DecidableEq α] {ns : List α} {a : α} {j : Nat} (h : (ns.findIdx? fun b => decide (b = a)) = some j) : j < ns.length ∧ ns[j]? = some a ∧ ns.eraseIdx j = ns.erase a := by
  obtain ⟨h1, h2, h3⟩ := List.findIdx?_eq_some_iff_getElem.mp h
  refine ⟨h1, ?_, ?_⟩
  · rw [List.getElem?_eq_getElem h1, of_decide_eq_true h2]
  · induction ns generalizing j with
    | nil => cases h1
    | cons x r ih =>
      rw [List.findIdx?_cons] at h
      by_cases e : x = a
      · rw [if_pos (decide_eq_true e)] at h
        cases h
        subst e
        rw [List.erase_cons_head]; rfl
      · rw [if_neg (by simpa using e)] at h
        obtain ⟨i, q1, q2⟩ := Option.map_eq_some_iff.mp h
        subst q2
        rw [List.erase_cons_tail (by simpa using e)]
        obtain ⟨g1, g2, g3⟩ := List.findIdx?_eq_some_iff_getElem.mp q1
        show x :: r.eraseIdx i = _
        rw [ih q1 g1 g2 g3]
theorem pT_some {ns : List (List Nat)} {a : List Nat} (h : a ∈ ns) : ∃ j, pT ns a = some j ∧ j < ns.length ∧ ns[j]? = some a ∧ ns.eraseIdx j = ns.erase a := by
  obtain ⟨j, hj⟩ := Option.isSome_iff_exists.mp (find_someI.mpr h)
  exact ⟨j, hj, at_pos hj⟩
theorem pI_some {ns : List Int} {a : Int} (h : a ∈ ns) : ∃ j, pI ns a = some j ∧ j < ns.length ∧ ns[j]? = some a ∧ ns.eraseIdx j = ns.erase a := by
  obtain ⟨j, hj⟩ := Option.isSome_iff_exists.mp (find_someI.mpr h)
  exact ⟨j, hj, at_pos hj⟩
/-- a value set in a list by a map -/
def upF {α β : Type} [DecidableEq α] (f : α → β) (a : α) (v : β) : α → β := fun x => if x = a then v else f x
theorem upF_self {α β : Type} [DecidableEq α] {f : α → β} {a : α} {v : β} : upF f a v a = v := if_pos rfl
theorem upF_ne {α β : Type} [DecidableEq α] {f : α → β} {a b : α} {v : β} (h : b ≠ a) : upF f a v b = f b := if_neg h
theorem map_upF_out {α β : Type} [DecidableEq α] {f : α → β} {a : α} {v : β} {ns : List α} (h : a ∉ ns) : ns.map (upF f a v) = ns.map f :=
  List.map_congr_left fun x hx => upF_ne fun e => h (e ▸ hx)
theorem map_upF {α β : Type} [DecidableEq α] {f : α → β} {a : α} {v : β} : ∀ {ns : List α} {j : Nat}, ns.Nodup → ns[j]? = some a → (ns.map f).set j v = ns.map (upF f a v)
  | x :: r, 0, nd, h => by
    have e : x = a := by simpa using h
    subst e
    show v :: r.map f = _
    rw [List.map_cons, upF_self, map_upF_out (List.nodup_cons.mp nd).1]
  | x :: r, j + 1, nd, h => by
    have h' : r[j]? = some a := by simpa using h
    have ne : x ≠ a := fun e => (List.nodup_cons.mp nd).1 (e ▸ List.mem_of_getElem? h')
    show f x :: (r.map f).set j v = _
    rw [List.map_cons, upF_ne ne, map_upF (List.nodup_cons.mp nd).2 h']
theorem map_erase {α β : Type} (f : α → β) : ∀ (ns : List α) (j : Nat), (ns.map f).eraseIdx j = (ns.eraseIdx j).map f
  | [], j => by simp
  | x :: r, 0 => rfl
  | x :: r, j + 1 => by
    show f x :: (r.map f).eraseIdx j = _
    rw [map_erase f r j]; rfl
theorem get_map {α β : Type} {f : α → β} {ns : List α} {j : Nat} {a : α} (h : ns[j]? = some a) : (ns.map f)[j]? = some (f a) := by
  rw [List.getElem?_map, h]; rfl
section
variable {S : Sto} {k k1 k2 : Kd} {d : D} {ns : List (List Nat)} {is : List Int} {a : List Nat} {i I J : Int} {xs : List D} {A : Vd} {n j : Nat} {ln : Bool} {ks : List Key}
theorem dPos_T : dPos (.dK (ns.map kT) xs) (.str (mkS a)) = some (pT ns a) := congrArg some (posOf_T ns a)
theorem dPos_I : dPos (.dK (is.map kI) xs) (.int i) = some (pI is i) := congrArg some (posOf_I is i)
theorem dIn_T : dIn (.dK (ns.map kT) xs) (.str (mkS a)) = some (decide (a ∈ ns)) := by
  show (dPos (.dK (ns.map kT) xs) (.str (mkS a))).map (·.isSome) = _
  rw [dPos_T]
  exact congrArg some find_someD
theorem dIn_I : dIn (.dK (is.map kI) xs) (.int i) = some (decide (i ∈ is)) := by
  show (dPos (.dK (is.map kI) xs) (.int i)).map (·.isSome) = _
  rw [dPos_I]
  exact congrArg some find_someD
theorem flat_T : flatL (ns.map sT) = some (ns.map fun a => V.str (mkS a)) := by
  induction ns with
  | nil => rfl
  | cons x r ih => show Option.map _ (flatL (r.map sT)) = _; rw [ih]; rfl
theorem in_T : inV (.str (mkS a)) (ns.map fun a => V.str (mkS a)) = decide (a ∈ ns) := by
  unfold inV
  by_cases h : a ∈ ns
  · rw [decide_eq_true h]
    exact List.any_eq_true.mpr ⟨_, List.mem_map.mpr ⟨a, h, rfl⟩, decide_eq_true rfl⟩
  · rw [decide_eq_false h]
    refine List.any_eq_false.mpr fun x hx => ?_
    obtain ⟨b, hb, rfl⟩ := List.mem_map.mp hx
    have : mkS b ≠ mkS a := fun e => h (mkS_inj e ▸ hb)
    simpa [eqV] using this
theorem dIn_lT : dIn (.lst (ns.map sT)) (.str (mkS a)) = some (decide (a ∈ ns)) := by
  show (some (V.str (mkS a))).bind (fun v => (flatL (ns.map sT)).map fun vs => inV v vs) = _
  rw [flat_T]
  show some (inV (.str (mkS a)) _) = _
  rw [in_T]
def ioK (S : Sto) (k : Kd) (xs : List D) (o : Option Nat) : Option Vd := match o with
  | some j => kdD S k j xs[j]?
  | none => none
def goK (S : Sto) (k : Kd) (xs : List D) (A : Vd) (o : Option Nat) : Option Vd := match o with
  | some j => kdD S k j xs[j]?
  | none => some A
theorem kid_nat : kid S k xs (j : Int) = kdD S k j xs[j]? := by
  rw [kid_eq]
  by_cases h : j < xs.length
  · rw [ixN_p (by omega) (by omega)]; rfl
  · have e : xs[j]? = none := List.getElem?_eq_none (by omega)
    rw [e]
    have : ixN xs.length (j : Int) = none := by
      unfold ixN
      rw [if_pos (by omega), if_neg (by omega)]
    rw [this]; rfl
theorem o_idxT : opv .idx S [(k, .dK (ns.map kT) xs), (k1, .str (mkS a))] = ioK S k xs (pT ns a) := by
  show (dPos (.dK (ns.map kT) xs) (.str (mkS a))).bind (fun o => o.bind fun j => kid S k xs j) = _
  rw [dPos_T]
  show (pT ns a).bind _ = _
  cases pT ns a with
  | none => rfl
  | some j => exact kid_nat
theorem o_idxI : opv .idx S [(k, .dK (is.map kI) xs), (k1, .int i)] = ioK S k xs (pI is i) := by
  show (dPos (.dK (is.map kI) xs) (.int i)).bind (fun o => o.bind fun j => kid S k xs j) = _
  rw [dPos_I]
  show (pI is i).bind _ = _
  cases pI is i with
  | none => rfl
  | some j => exact kid_nat
theorem ioK_s : ioK S k xs (some j) = kdD S k j xs[j]? := Eq.trans rfl rfl
theorem goK_s : goK S k xs A (some j) = kdD S k j xs[j]? := Eq.trans rfl rfl
theorem goK_n : goK S k xs A none = some A := Eq.trans rfl rfl
theorem o_get1T : opv .get1 S [(k, .dK (ns.map kT) xs), (k1, .str (mkS a))] = goK S k xs (.vl false, .non) (pT ns a) := by
  show Option.bind (dPos (.dK (ns.map kT) xs) (.str (mkS a))) (fun o => match o with
    | some j => kid S k xs j
    | none => some (.vl false, .non)) = _
  rw [dPos_T]
  show (match pT ns a with
    | some j => kid S k xs j
    | none => some (.vl false, .non)) = _
  cases pT ns a with
  | none => rfl
  | some j => exact kid_nat
theorem o_get1I : opv .get1 S [(k, .dK (is.map kI) xs), (k1, .int i)] = goK S k xs (.vl false, .non) (pI is i) := by
  show Option.bind (dPos (.dK (is.map kI) xs) (.int i)) (fun o => match o with
    | some j => kid S k xs j
    | none => some (.vl false, .non)) = _
  rw [dPos_I]
  show (match pI is i with
    | some j => kid S k xs j
    | none => some (.vl false, .non)) = _
  cases pI is i with
  | none => rfl
  | some j => exact kid_nat
theorem o_get2T : opv .get2 S [(k, .dK (ns.map kT) xs), (k1, .str (mkS a)), A] = goK S k xs A (pT ns a) := by
  show Option.bind (dPos (.dK (ns.map kT) xs) (.str (mkS a))) (fun o => match o with
    | some j => kid S k xs j
    | none => some A) = _
  rw [dPos_T]
  show (match pT ns a with
    | some j => kid S k xs j
    | none => some A) = _
  cases pT ns a with
  | none => rfl
  | some j => exact kid_nat
def stO (ks : List Key) (xs : List D) (q : Key) (d : D) (o : Option Nat) : D := match o with
  | some j => .dK ks (xs.set j d)
  | none => .dK (ks ++ [q]) (xs ++ [d])
theorem stO_s {q : Key} : stO ks xs q d (some j) = .dK ks (xs.set j d) := Eq.trans rfl rfl
theorem stO_n {q : Key} : stO ks xs q d none = .dK (ks ++ [q]) (xs ++ [d]) := Eq.trans rfl rfl
theorem sv_T (hf : fits n ln A = true) (hz : ns.length < 100000) : setv n ln (.dK (ns.map kT) xs) (.str (mkS a)) A = some (stO (ns.map kT) xs (kT a) A.2 (pT ns a)) := by
  unfold setv
  rw [if_pos hf]
  show (if (ns.map kT).length < sizeLine then (some (kT a)).map _ else none) = _
  rw [List.length_map, if_pos (by rw [sizeLine_eq]; omega)]
  show some (match posOf (ns.map kT) (kT a) with
    | some j => D.dK (ns.map kT) (xs.set j A.2)
    | none => .dK (ns.map kT ++ [kT a]) (xs ++ [A.2])) = _
  rw [show posOf (ns.map kT) (kT a) = pT ns a from posOf_T ns a]
  cases pT ns a <;> rfl
theorem sv_I (hf : fits n ln A = true) (hz : is.length < 100000) : setv n ln (.dK (is.map kI) xs) (.int i) A = some (stO (is.map kI) xs (kI i) A.2 (pI is i)) := by
  unfold setv
  rw [if_pos hf]
  show (if (is.map kI).length < sizeLine then (some (kI i)).map _ else none) = _
  rw [List.length_map, if_pos (by rw [sizeLine_eq]; omega)]
  show some (match posOf (is.map kI) (kI i) with
    | some j => D.dK (is.map kI) (xs.set j A.2)
    | none => .dK (is.map kI ++ [kI i]) (xs ++ [A.2])) = _
  rw [show posOf (is.map kI) (kI i) = pI is i from posOf_I is i]
  cases pI is i <;> rfl
theorem sv_l (hf : fits n ln A = true) (h0 : 0 ≤ I) (h1 : I < xs.length) : setv n ln (.lst xs) (.int I) A = some (.lst (xs.set I.toNat A.2)) := by
  unfold setv
  rw [if_pos hf]
  show (ixN xs.length I).map _ = _
  rw [ixN_p h0 h1]; rfl
def sfO (c : Nat) (fs : List Str) (xs : List D) (f : Str) (d : D) (o : Option Nat) : D := match o with
  | some j => .obj c fs (xs.set j d)
  | none => .obj c (fs ++ [f]) (xs ++ [d])
theorem sfO_s {c : Nat} {fs : List Str} {f : Str} : sfO c fs xs f d (some j) = .obj c fs (xs.set j d) := Eq.trans rfl rfl
theorem sfO_n {c : Nat} {fs : List Str} {f : Str} : sfO c fs xs f d none = .obj c (fs ++ [f]) (xs ++ [d]) := Eq.trans rfl rfl
theorem sf_o {c : Nat} {fs : List Str} {f : Str} (hf : fits n ln A = true) (hz : fs.length < 1000) : setf n ln (.obj c fs xs) f A = some (sfO c fs xs f A.2 (posOf fs f)) := by
  unfold setf
  rw [if_pos hf]
  show (if fs.length < 1000 then _ else none) = _
  rw [if_pos hz]
  cases posOf fs f <;> rfl
def ppO (n : Nat) (ln : Bool) (ks : List Key) (xs : List D) (j : Nat) (o : Option D) : Option (D × Vd) := match o with
  | some x => some (.dK (ks.eraseIdx j) (xs.eraseIdx j), norm (if n = 0 then .vl ln else .fr n ln, x))
  | none => none
def ppN (n : Nat) (ln : Bool) (ks : List Key) (xs : List D) (o : Option Nat) : Option (D × Vd) := match o with
  | some j => ppO n ln ks xs j xs[j]?
  | none => none
theorem ppN_s : ppN n ln ks xs (some j) = ppO n ln ks xs j xs[j]? := Eq.trans rfl rfl
theorem ppO_s : ppO n ln ks xs j (some d) = some (.dK (ks.eraseIdx j) (xs.eraseIdx j), norm (if n = 0 then .vl ln else .fr n ln, d)) := Eq.trans rfl rfl
theorem mt_popT : mutv .pop1 n ln (.dK (ns.map kT) xs) [(k, .str (mkS a))] = ppN n ln (ns.map kT) xs (pT ns a) := by
  show Option.bind (dPos (.dK (ns.map kT) xs) (.str (mkS a))) (fun o => o.bind fun j => (xs[j]?).map fun x => (D.dK ((ns.map kT).eraseIdx j) (xs.eraseIdx j), norm (if n = 0 then .vl ln else .fr n ln, x))) = _
  rw [dPos_T]
  show (pT ns a).bind _ = _
  cases pT ns a with
  | none => rfl
  | some j =>
    show (xs[j]?).map _ = ppO _ _ _ _ j xs[j]?
    cases xs[j]? <;> rfl
theorem mt_popI : mutv .pop1 n ln (.dK (is.map kI) xs) [(k, .int i)] = ppN n ln (is.map kI) xs (pI is i) := by
  show Option.bind (dPos (.dK (is.map kI) xs) (.int i)) (fun o => o.bind fun j => (xs[j]?).map fun x => (D.dK ((is.map kI).eraseIdx j) (xs.eraseIdx j), norm (if n = 0 then .vl ln else .fr n ln, x))) = _
  rw [dPos_I]
  show (pI is i).bind _ = _
  cases pI is i with
  | none => rfl
  | some j =>
    show (xs[j]?).map _ = ppO _ _ _ _ j xs[j]?
    cases xs[j]? <;> rfl
def rmN (xs : List D) (o : Option Nat) : Option (D × Vd) := match o with
  | some j => some (.lst (xs.eraseIdx j), .vl false, .non)
  | none => none
theorem rmN_s : rmN xs (some j) = some (.lst (xs.eraseIdx j), .vl false, .non) := Eq.trans rfl rfl
theorem find_eqT : (ns.map fun a => V.str (mkS a)).findIdx? (fun z => eqV z (.str (mkS a))) = pT ns a := by
  unfold pT
  induction ns with
  | nil => rfl
  | cons x r ih =>
    rw [List.map_cons, List.findIdx?_cons, List.findIdx?_cons, ih]
    have : eqV (.str (mkS x)) (.str (mkS a)) = decide (x = a) := by
      show decide (mkS x = mkS a) = _
      exact decide_eq_decide.mpr ⟨mkS_inj, fun e => by rw [e]⟩
    rw [this]
theorem mt_removeT : mutv .remove n ln (.lst (ns.map sT)) [(k, .str (mkS a))] = rmN (ns.map sT) (pT ns a) := by
  show (some (V.str (mkS a))).bind (fun v => (flatL (ns.map sT)).bind fun vs => (vs.findIdx? (fun z => eqV z v)).map fun j => (D.lst ((ns.map sT).eraseIdx j), ((.vl false, .non) : Vd))) = _
  rw [flat_T]
  show ((ns.map fun a => V.str (mkS a)).findIdx? (fun z => eqV z (.str (mkS a)))).map _ = _
  rw [find_eqT]
  cases pT ns a <;> rfl
theorem flat_I : flatL (is.map D.int) = some (is.map V.int) := by
  induction is with
  | nil => rfl
  | cons x r ih => show Option.map _ (flatL (r.map D.int)) = _; rw [ih]; rfl
theorem find_eqI : (is.map V.int).findIdx? (fun z => eqV z (.int i)) = pI is i := by
  unfold pI
  induction is with
  | nil => rfl
  | cons x r ih =>
    rw [List.map_cons, List.findIdx?_cons, List.findIdx?_cons, ih]
    rfl
theorem mt_removeI : mutv .remove n ln (.lst (is.map D.int)) [(k, .int i)] = rmN (is.map D.int) (pI is i) := by
  show (some (V.int i)).bind (fun v => (flatL (is.map D.int)).bind fun vs => (vs.findIdx? (fun z => eqV z v)).map fun j => (D.lst ((is.map D.int).eraseIdx j), ((.vl false, .non) : Vd))) = _
  rw [flat_I]
  show ((is.map V.int).findIdx? (fun z => eqV z (.int i))).map _ = _
  rw [find_eqI]
  cases pI is i <;> rfl
theorem tm_popd {ks ks' : List Key} {ys : List D} : tyMut .pop1 (.dK ks xs) (.dK ks' ys) = true := Eq.trans rfl rfl
theorem o_muls (h0 : 0 ≤ J) (h1 : J ≤ 1000) (h2 : a.length ≤ 1000) : opv .mul S [(k, .str (mkS a)), (k1, .int J)] = some (.vl false, .str (mkS (List.replicate J.toNat a).flatten)) := by
  have : opv .mul S [(k, .str (mkS a)), (k1, .int J)] = if 0 ≤ J ∧ J ≤ 1000 ∧ (mkS a).length ≤ 1000 then vT (.str (mkS (List.replicate J.toNat (mkS a).cps.toList).flatten)) else none := by cases k <;> rfl
  rw [this, mk_len, if_pos ⟨h0, h1, h2⟩]; rfl
def srtI (is : List Int) : List Int := is.mergeSort fun a b => decide (a ≤ b)
def srtT (ns : List (List Nat)) : List (List Nat) := ns.mergeSort fun a b => !PySem.Spec.ltCps b a
theorem intsOf_I : intsOf (is.map D.int) = some is := by
  induction is with
  | nil => rfl
  | cons x r ih => show Option.map _ (intsOf (r.map D.int)) = _; rw [ih]; rfl
theorem sortAny_I : sortAny (is.map D.int) = some (.lst ((srtI is).map D.int)) := by
  have : sortAny (is.map D.int) = (intsOf (is.map D.int)).map sortI := by cases is <;> rfl
  rw [this, intsOf_I]; rfl
theorem strsOf_T : strsOf (ns.map sT) = some (ns.map mkS) := by
  induction ns with
  | nil => rfl
  | cons x r ih => show Option.map _ (strsOf (r.map sT)) = _; rw [ih]; rfl
theorem sortAny_T (h : ns.length < 64) : sortAny (ns.map sT) = some (.lst ((srtT ns).map sT)) := by
  cases ns with
  | nil =>
    show some (sortI []) = _
    simp [sortI, srtT]
  | cons x r =>
    show (strsOf ((x :: r).map sT)).bind (fun ns => if ns.length < 64 then some (sortT ns) else none) = _
    rw [strsOf_T]
    show (if ((x :: r).map mkS).length < 64 then some (sortT _) else none) = _
    rw [List.length_map, if_pos h]
    unfold sortT srtT
    have := List.map_mergeSort (r := fun a b => !PySem.Spec.ltCps b a) (s := leS) (f := mkS) (l := x :: r) (fun a _ b _ => rfl)
    rw [← this, List.map_map]; rfl
theorem o_srtI : opv .sorted1 S [(k, .lst (is.map D.int))] = some (.fr 1 false, .lst ((srtI is).map D.int)) := by
  show (sortAny (is.map D.int)).map _ = _
  rw [sortAny_I]; rfl
theorem o_srtT (h : ns.length < 64) : opv .sorted1 S [(k, .lst (ns.map sT))] = some (.fr 1 false, .lst ((srtT ns).map sT)) := by
  show (sortAny (ns.map sT)).map _ = _
  rw [sortAny_T h]; rfl
theorem o_srdI : opv .sorted1 S [(k, .dK (is.map kI) xs)] = some (.fr 1 false, .lst ((srtI is).map D.int)) := by
  show (sortAny ((is.map kI).map keyD)).map _ = _
  rw [keyD_I, sortAny_I]; rfl
theorem o_srdT (h : ns.length < 64) : opv .sorted1 S [(k, .dK (ns.map kT) xs)] = some (.fr 1 false, .lst ((srtT ns).map sT)) := by
  show (sortAny ((ns.map kT).map keyD)).map _ = _
  rw [keyD_T, sortAny_T h]; rfl
def dcO (ks : List Key) (xs : List D) (o : Option Bool) : Option Vd := match o with
  | some l => some (.fr 1 l, .dK ks xs)
  | none => none
theorem o_dict1 : opv .dict1 S [(k, .dK ks xs)] = dcO ks xs (settle S k xs) := by
  show (settle S k xs).map _ = _
  cases settle S k xs <;> rfl
theorem dcO_s {l : Bool} : dcO ks xs (some l) = some (.fr 1 l, .dK ks xs) := Eq.trans rfl rfl
theorem nbxL_T : noBxL (ns.map sT) = true := nbxL_map fun _ => rfl
theorem immL_T : immL (ns.map sT) = true := immL_map fun _ => rfl
theorem okL_T {m : Nat} (h : ∀ a ∈ ns, a.all (· < 0x110000) = true) : okL m (ns.map sT) = true := okL_map fun a ha => okD_mk (h a ha)
theorem kTs : Sum.inr (mkS a) = kT a := Eq.trans rfl rfl
theorem map_app {α β : Type} (f : α → β) (x : List α) (y : α) : x.map f ++ [f y] = (x ++ [y]).map f := by rw [List.map_append]; rfl
theorem place_tl {p : List Nat} : place S (.tn n p, .lst xs) = plA n p S[n]? := place_tn rfl
theorem place_td {p : List Nat} : place S (.tn n p, .dK ks xs) = plA n p S[n]? := place_tn rfl
theorem place_to {p : List Nat} {c : Nat} {fs : List Str} : place S (.tn n p, .obj c fs xs) = plA n p S[n]? := place_tn rfl
def chD (o2 : Op) (S : Sto) (B : Vd) (r : R Res) : R Res := match r with
  | .ok (k3, d3, _, m3) => if m3 then .stuck else opC o2 S false (derL S [B, (k3, d3)])
  | .exc c S => .exc c S
  | .stuck => .stuck
def chC (Γ : Ga) (o2 : Op) (c : E) (env : EnvD) (S : Sto) (B : Vd) (r : R Res) : R Res := match r with
  | .ok (_, .bl true, _, _) => chD o2 S B (ev Γ c env S)
  | .ok (_, .bl false, _, _) => .ok (.vl false, .bl false, S, false)
  | .exc c S => .exc c S
  | _ => .stuck
def chB (Γ : Ga) (o1 o2 : Op) (c : E) (env : EnvD) (S : Sto) (A : Vd) (r : R Res) : R Res := match r with
  | .ok (k2, d2, _, m2) => if m2 || !isVl k2 then .stuck else chC Γ o2 c env S (k2, d2) (opC o1 S false (derL S [A, (k2, d2)]))
  | .exc c S => .exc c S
  | .stuck => .stuck
def chA (Γ : Ga) (o1 o2 : Op) (b c : E) (env : EnvD) (S : Sto) (r : R Res) : R Res := match r with
  | .ok (k1, d1, _, m1) => if m1 then .stuck else chB Γ o1 o2 c env S (k1, d1) (ev Γ b env S)
  | .exc c S => .exc c S
  | .stuck => .stuck
theorem ev_ch {Γ : Ga} {env : EnvD} {o1 o2 : Op} {a b c : E} : ev Γ (.ch o1 o2 a b c) env S = chA Γ o1 o2 b c env S (ev Γ a env S) := by
  rw [ev]
  cases ev Γ a env S with
  | exc => rfl
  | stuck => rfl
  | ok r1 =>
    obtain ⟨k1, d1, S1, m1⟩ := r1
    show (if m1 then R.stuck else _) = (if m1 then R.stuck else _)
    cases m1 with
    | true => rfl
    | false =>
      show (ev Γ b env S).bind _ = chB Γ o1 o2 c env S (k1, d1) (ev Γ b env S)
      cases ev Γ b env S with
      | exc => rfl
      | stuck => rfl
      | ok r2 =>
        obtain ⟨k2, d2, S2, m2⟩ := r2
        show (if (m2 || !isVl k2) = true then R.stuck else _) = (if (m2 || !isVl k2) = true then R.stuck else _)
        by_cases q : (m2 || !isVl k2) = true
        · rw [if_pos q, if_pos q]
        · rw [if_neg q, if_neg q]
          unfold chC opC
          cases derL S [(k1, d1), (k2, d2)] with
          | none => rfl
          | some bs =>
            show (ofO (opv o1 S bs)).bind _ = (match opD S false (opv o1 S bs) with
              | .ok (_, .bl true, _, _) => chD o2 S (k2, d2) (ev Γ c env S)
              | .ok (_, .bl false, _, _) => .ok (.vl false, .bl false, S, false)
              | .exc c S => .exc c S
              | _ => .stuck)
            unfold opD
            cases opv o1 S bs with
            | none => rfl
            | some v =>
              obtain ⟨k, d⟩ := v
              cases d <;> try rfl
              rename_i q
              cases q with
              | false => rfl
              | true =>
                show (ev Γ c env S).bind _ = chD o2 S (k2, d2) (ev Γ c env S)
                unfold chD
                cases ev Γ c env S with
                | exc => rfl
                | stuck => rfl
                | ok r3 =>
                  obtain ⟨k3, d3, S3, m3⟩ := r3
                  show (if m3 then R.stuck else _) = (if m3 then R.stuck else _)
                  cases m3 with
                  | true => rfl
                  | false => exact opC_eq
theorem chA_ok {Γ : Ga} {env : EnvD} {o1 o2 : Op} {b c : E} {S1 : Sto} : chA Γ o1 o2 b c env S (.ok (k, d, S1, false)) = chB Γ o1 o2 c env S (k, d) (ev Γ b env S) := Eq.trans rfl rfl
theorem chB_ok {Γ : Ga} {env : EnvD} {o1 o2 : Op} {c : E} {S1 : Sto} {l : Bool} : chB Γ o1 o2 c env S A (.ok (.vl l, d, S1, false)) = chC Γ o2 c env S (.vl l, d) (opC o1 S false (derL S [A, (.vl l, d)])) := Eq.trans rfl rfl
theorem chC_t {Γ : Ga} {env : EnvD} {o2 : Op} {c : E} {S1 : Sto} {m : Bool} : chC Γ o2 c env S A (.ok (k, .bl true, S1, m)) = chD o2 S A (ev Γ c env S) := Eq.trans rfl rfl
theorem chC_f {Γ : Ga} {env : EnvD} {o2 : Op} {c : E} {S1 : Sto} {m : Bool} : chC Γ o2 c env S A (.ok (k, .bl false, S1, m)) = .ok (.vl false, .bl false, S, false) := Eq.trans rfl rfl
theorem chD_ok {o2 : Op} {S1 : Sto} : chD o2 S A (.ok (k, d, S1, false)) = opC o2 S false (derL S [A, (k, d)]) := Eq.trans rfl rfl
theorem snoc_get {x : Option Bx} : (S ++ [x])[S.length]? = some x := by
  rw [List.getElem?_append_right (Nat.le_refl _), Nat.sub_self]; rfl
theorem snoc_set {x y : Option Bx} : (S ++ [x]).set S.length y = S ++ [y] := by
  rw [List.set_append_right _ _ (Nat.le_refl _), Nat.sub_self]; rfl
theorem app_get {T : Sto} {i : Nat} (h : i < S.length) : (S ++ T)[i]? = S[i]? := List.getElem?_append_left h
theorem app_set {T : Sto} {i : Nat} {x : Option Bx} (h : i < S.length) : (S ++ T).set i x = S.set i x ++ T := List.set_append_left _ _ h
theorem exs_app {Γ : Ga} : ∀ (a b : List Z.St) {e e' : EnvD} {S S' : Sto}, exs Γ a e S = .nx e' S' → exs Γ (a ++ b) e S = exs Γ b e' S'
  | [], b, e, e', S, S', h => by
    rw [exs] at h
    obtain ⟨h1, h2⟩ := SO.nx.inj h
    subst h1 h2
    rfl
  | s :: a, b, e, e', S, S', h => by
    rw [List.cons_append, exs]
    rw [exs] at h
    cases hx : ex1 Γ s e S <;> rw [hx] at h <;> first
      | (exact exs_app a b h)
      | (cases h)
theorem norm_lst : norm (k, .lst xs) = (k, .lst xs) := Eq.trans rfl rfl
theorem norm_int : norm (k, .int I) = (.vl false, .int I) := Eq.trans rfl rfl
theorem norm_str {x : PySem.Str} : norm (k, .str x) = (.vl false, .str x) := Eq.trans rfl rfl
theorem norm_bl {q : Bool} : norm (k, .bl q) = (.vl false, .bl q) := Eq.trans rfl rfl
theorem norm_non : norm (k, .non) = (.vl false, .non) := Eq.trans rfl rfl
theorem norm_tup : norm (k, .tup xs) = if immL xs = true then (.vl false, .tup xs) else (k, .tup xs) := Eq.trans rfl rfl
theorem norm_dK : norm (k, .dK ks xs) = (k, .dK ks xs) := Eq.trans rfl rfl
theorem norm_obj {c : Nat} {fs : List Str} : norm (k, .obj c fs xs) = (k, .obj c fs xs) := Eq.trans rfl rfl
theorem sT_s : sT a = .str (mkS a) := Eq.trans rfl rfl
end
end Y

namespace Hd
open PySem PySem.Spec PyProof.Rows L2 Z
def top (i : Nat) : Stmt := PySem.Challenge.pw_tieseek_k17_pieces_of_a_text.main.body.getD i (.Pass ⟨0, 0, 0, 0⟩)

abbrev i_good_name : Nat := 0
abbrev i_number_read : Nat := 1
abbrev i_name_end : Nat := 2
abbrev i_condition_at : Nat := 3
abbrev i_mark_at : Nat := 4
abbrev i_pieces : Nat := 5
abbrev i_law_name_by : Nat := 6
abbrev i_law_number_by : Nat := 7
abbrev i_law_mark_by : Nat := 8
abbrev i_law_alike : Nat := 9
abbrev i_law_shown : Nat := 10
abbrev i_law_letter : Nat := 11
abbrev i_law_row : Nat := 12
abbrev i_law : Nat := 13
def d0 : He.DefD := ⟨("good_name", none), "good_name", "good_name", defArgs (top 9), defBody (top 9), defScope (top 9), [], []⟩
def N0 : List PySem.Str := [("text" : PySem.Str), ("sign" : PySem.Str)]
def b_good_name_0 : List Z.St := [.ite (.b (.op .nin [(.v 1 false), (.g "LETTERS_names" (.str (mkS [97, 98, 99, 100, 101, 102, 103, 104, 105, 106, 107, 108, 109, 110, 111, 112, 113, 114, 115, 116, 117, 118, 119, 120, 121, 122])))])) [.ret (.k (.bl false))] []]
def b_good_name : List Z.St := [.ite (.or' (.b (.op .lt [(.op .len [(.v 0 false)]), (.k (.int (1)))])) (.b (.op .gt [(.op .len [(.v 0 false)]), (.g "LONGEST" (.int (12)))]))) [.ret (.k (.bl false))] [],
    .for' [1] false (.seq (.v 0 false)) b_good_name_0,
    .ret (.k (.bl true))]
def f_good_name : FnI := ⟨"good_name", 1, 2, [], b_good_name, false⟩
def d1 : He.DefD := ⟨("number_read", none), "number_read", "number_read", defArgs (top 10), defBody (top 10), defScope (top 10), [], []⟩
def N1 : List PySem.Str := [("text" : PySem.Str), ("below" : PySem.Str), ("figures" : PySem.Str), ("sign" : PySem.Str)]
def b_number_read_0 : List Z.St := [.ite (.b (.op .nin [(.v 3 false), (.g "FIGURES" (.str (mkS [48, 49, 50, 51, 52, 53, 54, 55, 56, 57])))])) [.raise 1] []]
def b_number_read : List Z.St := [.asg 1 none (.op .eq [(.op (.sl false true) [(.v 0 false), (.k (.int (1)))]), (.k (.str (mkS [45])))]),
    .asg 2 none (.v 0 false),
    .ite (.t (.v 1 false)) [.asg 2 none (.op (.sl true false) [(.v 0 false), (.k (.int (1)))])] [],
    .ite (.or' (.b (.op .lt [(.op .len [(.v 2 false)]), (.k (.int (1)))])) (.b (.op .gt [(.op .len [(.v 2 false)]), (.g "MOST_FIGURES" (.int (60)))]))) [.raise 1] [],
    .for' [3] false (.seq (.v 2 false)) b_number_read_0,
    .ite (.and' (.b (.op .eq [(.op .idx [(.v 2 false), (.k (.int (0)))]), (.k (.str (mkS [48])))])) (.b (.op .ne [(.v 0 false), (.k (.str (mkS [48])))]))) [.raise 1] [],
    .ite (.t (.v 1 false)) [.ret (.op .neg [(.op .int1 [(.v 2 false)])])] [],
    .ret (.op .int1 [(.v 2 false)])]
def f_number_read : FnI := ⟨"number_read", 1, 4, [], b_number_read, false⟩
def d2 : He.DefD := ⟨("name_end", none), "name_end", "name_end", defArgs (top 15), defBody (top 15), defScope (top 15), [], []⟩
def N2 : List PySem.Str := [("text" : PySem.Str), ("at" : PySem.Str)]
def b_name_end_0 : List Z.St := [.asg 1 none (.op .add [(.v 1 false), (.k (.int (1)))])]
def b_name_end : List Z.St := [.ite (.b (.op .eq [(.op (.sl true true) [(.v 0 false), (.v 1 false), (.op .add [(.v 1 false), (.k (.int (1)))])]), (.k (.str (mkS [95])))])) [.ret (.op .add [(.v 1 false), (.k (.int (1)))])] [],
    .whl (.and' (.b (.op .lt [(.v 1 false), (.op .len [(.v 0 false)])])) (.b (.op .inn [(.op .idx [(.v 0 false), (.v 1 false)]), (.g "LETTERS_pieces" (.str (mkS [97, 98, 99, 100, 101, 102, 103, 104, 105, 106, 107, 108, 109, 110, 111, 112, 113, 114, 115, 116, 117, 118, 119, 120, 121, 122])))]))) b_name_end_0,
    .ret (.v 1 false)]
def f_name_end : FnI := ⟨"name_end", 2, 2, [], b_name_end, false⟩
def d3 : He.DefD := ⟨("condition_at", none), "condition_at", "condition_at", defArgs (top 16), defBody (top 16), defScope (top 16), [], []⟩
def N3 : List PySem.Str := [("text" : PySem.Str), ("at" : PySem.Str), ("sign" : PySem.Str), ("shut" : PySem.Str), ("number" : PySem.Str)]
def b_condition_at : List Z.St := [.asg 2 none (.op (.sl true true) [(.v 0 false), (.op .add [(.v 1 false), (.k (.int (1)))]), (.op .add [(.v 1 false), (.k (.int (2)))])]),
    .asg 3 none (.op .find2 [(.v 0 false), (.k (.str (mkS [93]))), (.v 1 false)]),
    .ite (.or' (.b (.op .eq [(.v 2 false), (.k (.str (mkS [])))])) (.or' (.b (.op .nin [(.v 2 false), (.g "COMPARING" (.str (mkS [60, 62, 61, 33])))])) (.b (.op .lt [(.v 3 false), (.k (.int (0)))])))) [.raise 2] [],
    .tr0 [.asg 4 none (.call true i_number_read [(.op (.sl true true) [(.v 0 false), (.op .add [(.v 1 false), (.k (.int (2)))]), (.v 3 false)])])],
    .ret (.op (.tupD 0 false) [(.v 2 false), (.v 4 false), (.op .add [(.v 3 false), (.k (.int (1)))])])]
def f_condition_at : FnI := ⟨"condition_at", 2, 5, [], b_condition_at, false⟩
def d4 : He.DefD := ⟨("mark_at", none), "mark_at", "mark_at", defArgs (top 17), defBody (top 17), defScope (top 17), [], []⟩
def N4 : List PySem.Str := [("text" : PySem.Str), ("at" : PySem.Str), ("back" : PySem.Str), ("start" : PySem.Str), ("end" : PySem.Str), ("name" : PySem.Str), ("told" : PySem.Str)]
def b_mark_at : List Z.St := [.asg 2 none (.op .eq [(.op .idx [(.v 0 false), (.v 1 false)]), (.k (.str (mkS [60])))]),
    .asg 3 none (.op .add [(.v 1 false), (.op .int1 [(.v 2 false)])]),
    .asg 4 none (.call true i_name_end [(.v 0 false), (.v 3 false)]),
    .asg 5 none (.op (.sl true true) [(.v 0 false), (.v 3 false), (.v 4 false)]),
    .ite (.and' (.b (.op .ne [(.v 5 false), (.k (.str (mkS [95])))])) (.not' (.t (.call true i_good_name [(.v 5 false)])))) [.raise 2] [],
    .ite (.b (.op .ne [(.op (.sl true true) [(.v 0 false), (.v 4 false), (.op .add [(.v 4 false), (.k (.int (1)))])]), (.k (.str (mkS [91])))])) [.ret (.op (.tupD 0 false) [(.op (.tupD 0 false) [(.k (.str (mkS [109, 97, 114, 107]))), (.v 5 false), (.v 2 false), (.k (.str (mkS []))), (.k (.int (0)))]), (.v 4 false)])] [],
    .asg 6 none (.call true i_condition_at [(.v 0 false), (.v 4 false)]),
    .ret (.op (.tupD 0 false) [(.op (.tupD 0 false) [(.k (.str (mkS [109, 97, 114, 107]))), (.v 5 false), (.v 2 false), (.op .idx [(.v 6 false), (.k (.int (0)))]), (.op .idx [(.v 6 false), (.k (.int (1)))])]), (.op .idx [(.v 6 false), (.k (.int (2)))])])]
def f_mark_at : FnI := ⟨"mark_at", 2, 7, [], b_mark_at, false⟩
def d5 : He.DefD := ⟨("pieces", none), "pieces", "pieces", defArgs (top 18), defBody (top 18), defScope (top 18), [], []⟩
def N5 : List PySem.Str := [("text" : PySem.Str), ("told" : PySem.Str), ("at" : PySem.Str), ("found" : PySem.Str)]
def b_pieces_0 : List Z.St := [.ite (.b (.op .inn [(.op .idx [(.v 0 false), (.v 2 false)]), (.g "SIGNS" (.str (mkS [46, 124, 42, 43, 63, 40, 41])))])) [.ex (.mut .append (.v 1 false) [(.op .idx [(.v 0 false), (.v 2 false)])]), .asg 2 none (.op .add [(.v 2 false), (.k (.int (1)))])] [.asg 3 none (.call true i_mark_at [(.v 0 false), (.v 2 false)]), .ex (.mut .append (.v 1 false) [(.op .idx [(.v 3 false), (.k (.int (0)))])]), .asg 2 none (.op .idx [(.v 3 false), (.k (.int (1)))])]]
def b_pieces : List Z.St := [.asg 1 (some (0, false)) (.op (.lstD 0 false) []),
    .asg 2 none (.k (.int (0))),
    .whl (.b (.op .lt [(.v 2 false), (.op .len [(.v 0 false)])])) b_pieces_0,
    .ret (.v 1 true)]
def f_pieces : FnI := ⟨"pieces", 1, 4, [], b_pieces, false⟩
def d6 : He.DefD := ⟨("_law_name_by", none), "_law_name_by", "_law_name_by", defArgs (top 20), defBody (top 20), defScope (top 20), [], []⟩
def N6 : List PySem.Str := [("cell" : PySem.Str), ("number" : PySem.Str), ("size" : PySem.Str), ("told" : PySem.Str), ("k" : PySem.Str)]
def b_law_name_by_0 : List Z.St := [.asg 1 none (.op .mod [(.op .add [(.op .mul [(.v 1 false), (.k (.int (48271)))]), (.k (.int (11)))]), (.k (.int (2147483647)))]), .asg 3 none (.op .add [(.v 3 false), (.op .idx [(.k (.str (mkS [97, 98, 99, 100, 101, 102, 103, 104, 105, 106, 107, 108, 109, 110, 111, 112, 113, 114, 115, 116, 117, 118, 119, 120, 121, 122]))), (.op .mod [(.op .fdiv [(.v 1 false), (.k (.int (1000)))]), (.k (.int (26)))])])])]
def b_law_name_by : List Z.St := [.asg 1 none (.op .mod [(.v 0 false), (.k (.int (2147483647)))]),
    .asg 2 none (.op .add [(.k (.int (1))), (.op .mod [(.v 1 false), (.k (.int (3)))])]),
    .ite (.b (.op .eq [(.op .mod [(.v 1 false), (.k (.int (4)))]), (.k (.int (1)))])) [.asg 2 none (.op .add [(.k (.int (1))), (.op .mod [(.op .fdiv [(.v 1 false), (.k (.int (4)))]), (.k (.int (12)))])])] [],
    .asg 3 none (.k (.str (mkS []))),
    .for' [4] false (.rng [(.v 2 false)]) b_law_name_by_0,
    .ret (.v 3 false)]
def f_law_name_by : FnI := ⟨"_law_name_by", 1, 5, [], b_law_name_by, false⟩
def d7 : He.DefD := ⟨("_law_number_by", none), "_law_number_by", "_law_number_by", defArgs (top 21), defBody (top 21), defScope (top 21), [], []⟩
def N7 : List PySem.Str := [("cell" : PySem.Str), ("size" : PySem.Str)]
def b_law_number_by : List Z.St := [.asg 1 none (.op .mod [(.op .fdiv [(.v 0 false), (.k (.int (2)))]), (.op .pow [(.k (.int (10))), (.k (.int (60)))])]),
    .ite (.b (.op .eq [(.op .mod [(.op .fdiv [(.v 0 false), (.k (.int (2)))]), (.k (.int (7)))]), (.k (.int (3)))])) [.asg 1 none (.op .sub [(.op .sub [(.op .pow [(.k (.int (10))), (.k (.int (60)))]), (.k (.int (1)))]), (.op .mod [(.op .fdiv [(.v 0 false), (.k (.int (14)))]), (.k (.int (2)))])])] [],
    .ite (.b (.op .eq [(.op .mod [(.v 0 false), (.k (.int (2)))]), (.k (.int (1)))])) [.ret (.op .neg [(.v 1 false)])] [],
    .ret (.v 1 false)]
def f_law_number_by : FnI := ⟨"_law_number_by", 1, 2, [], b_law_number_by, false⟩
def d8 : He.DefD := ⟨("_law_mark_by", none), "_law_mark_by", "_law_mark_by", defArgs (top 22), defBody (top 22), defScope (top 22), [], []⟩
def N8 : List PySem.Str := [("cell" : PySem.Str), ("name" : PySem.Str), ("sign" : PySem.Str)]
def b_law_mark_by : List Z.St := [.asg 1 none (.call true i_law_name_by [(.op .fdiv [(.v 0 false), (.k (.int (60)))])]),
    .ite (.b (.op .eq [(.op .mod [(.v 0 false), (.k (.int (5)))]), (.k (.int (2)))])) [.asg 1 none (.k (.str (mkS [95])))] [],
    .asg 2 none (.op .idx [(.op (.lstD 0 false) [(.k (.str (mkS []))), (.k (.str (mkS []))), (.k (.str (mkS [60]))), (.k (.str (mkS [62]))), (.k (.str (mkS [61]))), (.k (.str (mkS [33])))]), (.op .mod [(.op .fdiv [(.v 0 false), (.k (.int (10)))]), (.k (.int (6)))])]),
    .ite (.b (.op .eq [(.v 2 false), (.k (.str (mkS [])))])) [.ret (.op (.tupD 0 false) [(.k (.str (mkS [109, 97, 114, 107]))), (.v 1 false), (.op .eq [(.op .mod [(.op .fdiv [(.v 0 false), (.k (.int (5)))]), (.k (.int (2)))]), (.k (.int (1)))]), (.k (.str (mkS []))), (.k (.int (0)))])] [],
    .ret (.op (.tupD 0 false) [(.k (.str (mkS [109, 97, 114, 107]))), (.v 1 false), (.op .eq [(.op .mod [(.op .fdiv [(.v 0 false), (.k (.int (5)))]), (.k (.int (2)))]), (.k (.int (1)))]), (.v 2 false), (.call true i_law_number_by [(.op .fdiv [(.v 0 false), (.k (.int (60)))])])])]
def f_law_mark_by : FnI := ⟨"_law_mark_by", 1, 3, [], b_law_mark_by, false⟩
def d9 : He.DefD := ⟨("_law_alike", none), "_law_alike", "_law_alike", defArgs (top 23), defBody (top 23), defScope (top 23), [], []⟩
def N9 : List PySem.Str := [("found" : PySem.Str), ("due" : PySem.Str), ("k" : PySem.Str)]
def b_law_alike_0 : List Z.St := [.ite (.not' (.t (.call true i_law_alike [(.op .idx [(.v 0 false), (.v 2 false)]), (.op .idx [(.v 1 false), (.v 2 false)])]))) [.ret (.k (.bl false))] []]
def b_law_alike : List Z.St := [.ite (.or' (.not' (.b (.op (.isI 4) [(.v 0 false)]))) (.or' (.b (.op .ne [(.op .len [(.v 0 false)]), (.op .len [(.v 1 false)])])) (.not' (.b (.op (.isI 2) [(.op .idx [(.v 0 false), (.k (.int (0)))])]))))) [.ret (.k (.bl false))] [],
    .ite (.b (.op .eq [(.op .idx [(.v 1 false), (.k (.int (0)))]), (.k (.str (mkS [109, 97, 114, 107])))])) [.ite (.or' (.not' (.b (.op (.isI 2) [(.op .idx [(.v 0 false), (.k (.int (1)))])]))) (.or' (.not' (.b (.op (.isI 1) [(.op .idx [(.v 0 false), (.k (.int (2)))])]))) (.not' (.b (.op (.isI 2) [(.op .idx [(.v 0 false), (.k (.int (3)))])]))))) [.ret (.k (.bl false))] [], .ret (.and' (.op (.isI 0) [(.op .idx [(.v 0 false), (.k (.int (4)))])]) (.and' (.op .notB [(.op (.isI 1) [(.op .idx [(.v 0 false), (.k (.int (4)))])])]) (.op .eq [(.v 0 false), (.v 1 false)])))] [],
    .for' [2] false (.rng [(.k (.int (1))), (.op .len [(.v 1 false)])]) b_law_alike_0,
    .ret (.op .eq [(.op .idx [(.v 0 false), (.k (.int (0)))]), (.op .idx [(.v 1 false), (.k (.int (0)))])])]
def f_law_alike : FnI := ⟨"_law_alike", 2, 3, [], b_law_alike, false⟩
def d10 : He.DefD := ⟨("_law_shown", none), "_law_shown", "_law_shown", defArgs (top 24), defBody (top 24), defScope (top 24), [], []⟩
def N10 : List PySem.Str := [("piece" : PySem.Str), ("told" : PySem.Str)]
def b_law_shown : List Z.St := [.ite (.b (.op (.isI 2) [(.v 0 false)])) [.ret (.v 0 false)] [],
    .asg 1 none (.op .idx [(.v 0 false), (.k (.int (1)))]),
    .ite (.t (.op .idx [(.v 0 false), (.k (.int (2)))])) [.asg 1 none (.op .add [(.k (.str (mkS [60]))), (.v 1 false)])] [],
    .ite (.b (.op .ne [(.op .idx [(.v 0 false), (.k (.int (3)))]), (.k (.str (mkS [])))])) [.asg 1 none (.op .add [(.op .add [(.op .add [(.op .add [(.v 1 false), (.k (.str (mkS [91])))]), (.op .idx [(.v 0 false), (.k (.int (3)))])]), (.op .str1 [(.op .idx [(.v 0 false), (.k (.int (4)))])])]), (.k (.str (mkS [93])))])] [],
    .ret (.v 1 false)]
def f_law_shown : FnI := ⟨"_law_shown", 1, 2, [], b_law_shown, false⟩
def d11 : He.DefD := ⟨("_law_letter", none), "_law_letter", "_law_letter", defArgs (top 25), defBody (top 25), defScope (top 25), [], []⟩
def N11 : List PySem.Str := [("sign" : PySem.Str)]
def b_law_letter : List Z.St := [.ret (.and' (.op .eq [(.op .len [(.v 0 false)]), (.k (.int (1)))]) (.op .inn [(.v 0 false), (.k (.str (mkS [97, 98, 99, 100, 101, 102, 103, 104, 105, 106, 107, 108, 109, 110, 111, 112, 113, 114, 115, 116, 117, 118, 119, 120, 121, 122])))]))]
def f_law_letter : FnI := ⟨"_law_letter", 1, 1, [], b_law_letter, false⟩
def d12 : He.DefD := ⟨("_law_row", none), "_law_row", "_law_row", defArgs (top 26), defBody (top 26), defScope (top 26), [], []⟩
def N12 : List PySem.Str := [("script" : PySem.Str), ("row" : PySem.Str), ("cell" : PySem.Str), ("piece" : PySem.Str)]
def b_law_row_0 : List Z.St := [.asg 3 none (.call true i_law_mark_by [(.op .fdiv [(.v 2 false), (.k (.int (14)))])]), .ite (.b (.op .lt [(.op .mod [(.v 2 false), (.k (.int (14)))]), (.k (.int (7)))])) [.asg 3 none (.op .idx [(.k (.str (mkS [46, 124, 42, 43, 63, 40, 41]))), (.op .mod [(.v 2 false), (.k (.int (14)))])])] [], .ite (.and' (.b (.op .gt [(.op .len [(.v 1 false)]), (.k (.int (0)))])) (.and' (.t (.call true i_law_letter [(.op .idx [(.call true i_law_shown [(.op .idx [(.v 1 false), (.op .neg [(.k (.int (1)))])])]), (.op .neg [(.k (.int (1)))])])])) (.t (.call true i_law_letter [(.op .idx [(.call true i_law_shown [(.v 3 false)]), (.k (.int (0)))])])))) [.ex (.mut .append (.v 1 false) [(.k (.str (mkS [46])))])] [], .ex (.mut .append (.v 1 false) [(.v 3 false)])]
def b_law_row : List Z.St := [.asg 1 (some (0, false)) (.op (.lstD 0 false) []),
    .for' [2] false (.seq (.v 0 false)) b_law_row_0,
    .ret (.v 1 true)]
def f_law_row : FnI := ⟨"_law_row", 1, 4, [], b_law_row, false⟩
def d13 : He.DefD := ⟨("law", none), "law", "law", defArgs (top 27), defBody (top 27), defScope (top 27), [], []⟩
def N13 : List PySem.Str := [("script" : PySem.Str), ("row" : PySem.Str), ("found" : PySem.Str), ("k" : PySem.Str), ("piece" : PySem.Str)]
def b_law_0 : List Z.St := [.ite (.b (.op (.isI 2) [(.op .idx [(.v 1 false), (.v 3 false)])])) [.ite (.or' (.not' (.b (.op (.isI 2) [(.op .idx [(.v 2 false), (.v 3 false)])]))) (.b (.op .ne [(.op .idx [(.v 2 false), (.v 3 false)]), (.op .idx [(.v 1 false), (.v 3 false)])]))) [.ret (.k (.bl false))] []] [.ite (.not' (.t (.call true i_law_alike [(.op .idx [(.v 2 false), (.v 3 false)]), (.op .idx [(.v 1 false), (.v 3 false)])]))) [.ret (.k (.bl false))] []]]
def b_law : List Z.St := [.asg 1 none (.call true i_law_row [(.v 0 false)]),
    .asg 2 none (.call true i_pieces [(.op .join [(.k (.str (mkS []))), (.lc 0 false [4] false (.seq (.v 1 false)) [] (.call true i_law_shown [(.v 4 false)]))])]),
    .ite (.or' (.not' (.b (.op (.isI 3) [(.v 2 false)]))) (.b (.op .ne [(.op .len [(.v 2 false)]), (.op .len [(.v 1 false)])]))) [.ret (.k (.bl false))] [],
    .for' [3] false (.rng [(.op .len [(.v 1 false)])]) b_law_0,
    .ret (.k (.bl true))]
def f_law : FnI := ⟨"law", 1, 5, [], b_law, false⟩
def fn : List He.DefD := [d0, d1, d2, d3, d4, d5, d6, d7, d8, d9, d10, d11, d12, d13]
def fa : List He.Fa := [.glo "good_name", .glo "number_read", .glo "name_end", .glo "condition_at", .glo "mark_at", .glo "pieces", .glo "_law_name_by", .glo "_law_number_by", .glo "_law_mark_by", .glo "_law_alike", .glo "_law_shown", .glo "_law_letter", .glo "_law_row", .glo "law", .glo "SeekError", .exc "SeekError", .glo "NoNumber", .exc "NoNumber", .glo "NoPiece", .exc "NoPiece", .free "bool", .free "int", .free "isinstance", .free "len", .free "list", .free "range", .free "str", .free "tuple", .int "LONGEST" (12), .str "LETTERS_names" "abcdefghijklmnopqrstuvwxyz", .int "MOST_FIGURES" (60), .str "FIGURES" "0123456789", .str "LETTERS_pieces" "abcdefghijklmnopqrstuvwxyz", .str "COMPARING" "<>=!", .str "SIGNS" ".|*+?()"]
def names0 : List PySem.Str := [("SeekError" : PySem.Str), ("NoNumber" : PySem.Str), ("NoPiece" : PySem.Str), ("LETTERS_names" : PySem.Str), ("FIGURES" : PySem.Str), ("LONGEST" : PySem.Str), ("MOST_FIGURES" : PySem.Str), ("good_name" : PySem.Str), ("number_read" : PySem.Str), ("SIGNS" : PySem.Str), ("LETTERS_pieces" : PySem.Str), ("COMPARING" : PySem.Str), ("name_end" : PySem.Str), ("condition_at" : PySem.Str), ("mark_at" : PySem.Str), ("pieces" : PySem.Str), ("_law_name_by" : PySem.Str), ("_law_number_by" : PySem.Str), ("_law_mark_by" : PySem.Str), ("_law_alike" : PySem.Str), ("_law_shown" : PySem.Str), ("_law_letter" : PySem.Str), ("_law_row" : PySem.Str)]
def names : List PySem.Str := names0
def P : Pg := ⟨[f_good_name, f_number_read, f_name_end, f_condition_at, f_mark_at, f_pieces, f_law_name_by, f_law_number_by, f_law_mark_by, f_law_alike, f_law_shown, f_law_letter, f_law_row, f_law], [], 3⟩
theorem P_nx : P.nx = 3 := Eq.trans rfl rfl
theorem P_cls : P.cls = [] := Eq.trans rfl rfl
def tb : Tb := ⟨["bool", "int", "isinstance", "len", "list", "range", "str", "tuple"], [], [("LONGEST", (.int (12))), ("LETTERS_names", (.str (mkS [97, 98, 99, 100, 101, 102, 103, 104, 105, 106, 107, 108, 109, 110, 111, 112, 113, 114, 115, 116, 117, 118, 119, 120, 121, 122]))), ("MOST_FIGURES", (.int (60))), ("FIGURES", (.str (mkS [48, 49, 50, 51, 52, 53, 54, 55, 56, 57]))), ("LETTERS_pieces", (.str (mkS [97, 98, 99, 100, 101, 102, 103, 104, 105, 106, 107, 108, 109, 110, 111, 112, 113, 114, 115, 116, 117, 118, 119, 120, 121, 122]))), ("COMPARING", (.str (mkS [60, 62, 61, 33]))), ("SIGNS", (.str (mkS [46, 124, 42, 43, 63, 40, 41])))], ["good_name", "number_read", "name_end", "condition_at", "mark_at", "pieces", "_law_name_by", "_law_number_by", "_law_mark_by", "_law_alike", "_law_shown", "_law_letter", "_law_row", "law"], [], ["SeekError", "NoNumber", "NoPiece"]⟩
def T : Tab := ⟨tb, P, fa, fn, [N0, N1, N2, N3, N4, N5, N6, N7, N8, N9, N10, N11, N12, N13]⟩
abbrev R : PySem.W.OpenRow := PySem.W.OpenLaw.row PySem.Challenge.rw_tieseek_k17_pieces_of_a_text
abbrev hk : PySem.W.Hook := Z.hookX 4 fa fn tb.exc
def ob (s : PySem.W.SharedT) : Z.AlX := Z.obsXG 4 fa fn tb.exc (HandSHeadRun.getT s)
theorem ob_eq (s : PySem.W.SharedT) : ob s = hk.obs s.abs := Z.obsX_eq (HandSHeadRun.getT_eq s)
theorem run (w : World) : HandSHeadRun.RunEq R (PySem.W.view R.prog [27]) hk ob 20000 names w := by
  intro os
  kernel_rfl
theorem tab_ok : okTab T = true := by kernel_rfl
theorem bnd : BndAll T 0 T.P.fns :=
  ⟨⟨d0, N0, rfl, rfl, rfl, .inl ⟨rfl, rfl, fun _ _ _ _ _ _ us hl => match us, hl with | [_], _ => rfl⟩⟩,
   ⟨d1, N1, rfl, rfl, rfl, .inl ⟨rfl, rfl, fun _ _ _ _ _ _ us hl => match us, hl with | [_], _ => rfl⟩⟩,
   ⟨d2, N2, rfl, rfl, rfl, .inl ⟨rfl, rfl, fun _ _ _ _ _ _ us hl => match us, hl with | [_, _], _ => rfl⟩⟩,
   ⟨d3, N3, rfl, rfl, rfl, .inl ⟨rfl, rfl, fun _ _ _ _ _ _ us hl => match us, hl with | [_, _], _ => rfl⟩⟩,
   ⟨d4, N4, rfl, rfl, rfl, .inl ⟨rfl, rfl, fun _ _ _ _ _ _ us hl => match us, hl with | [_, _], _ => rfl⟩⟩,
   ⟨d5, N5, rfl, rfl, rfl, .inl ⟨rfl, rfl, fun _ _ _ _ _ _ us hl => match us, hl with | [_], _ => rfl⟩⟩,
   ⟨d6, N6, rfl, rfl, rfl, .inl ⟨rfl, rfl, fun _ _ _ _ _ _ us hl => match us, hl with | [_], _ => rfl⟩⟩,
   ⟨d7, N7, rfl, rfl, rfl, .inl ⟨rfl, rfl, fun _ _ _ _ _ _ us hl => match us, hl with | [_], _ => rfl⟩⟩,
   ⟨d8, N8, rfl, rfl, rfl, .inl ⟨rfl, rfl, fun _ _ _ _ _ _ us hl => match us, hl with | [_], _ => rfl⟩⟩,
   ⟨d9, N9, rfl, rfl, rfl, .inl ⟨rfl, rfl, fun _ _ _ _ _ _ us hl => match us, hl with | [_, _], _ => rfl⟩⟩,
   ⟨d10, N10, rfl, rfl, rfl, .inl ⟨rfl, rfl, fun _ _ _ _ _ _ us hl => match us, hl with | [_], _ => rfl⟩⟩,
   ⟨d11, N11, rfl, rfl, rfl, .inl ⟨rfl, rfl, fun _ _ _ _ _ _ us hl => match us, hl with | [_], _ => rfl⟩⟩,
   ⟨d12, N12, rfl, rfl, rfl, .inl ⟨rfl, rfl, fun _ _ _ _ _ _ us hl => match us, hl with | [_], _ => rfl⟩⟩,
   ⟨d13, N13, rfl, rfl, rfl, .inl ⟨rfl, rfl, fun _ _ _ _ _ _ us hl => match us, hl with | [_], _ => rfl⟩⟩, trivial⟩
end Hd

namespace L17
open Z Hd PySem L2 TL
local macro_rules
  | `(tactic| simp_arith (disch := simp only [$ds,*]) only [$ls,*]) => `(tactic| simp (disch := first | assumption | omega | ((try simp only [Y.fits_r, Y.fits_v, Y.isCon_lst, Y.isCon_dK, Y.isCon_dT, Y.isCon_obj, Y.isCon_non, Y.isCon_bx, Y.isCon_tup, Y.isCon_bl, Y.isCon_int, Y.isCon_str, Y.isMth_add, Y.isMth_sub, Y.isMth_mul, Y.isMth_fdiv, Y.isMth_mod, Y.isMth_pow, Y.isMth_shl, Y.isMth_shr, Y.isMth_band, Y.isMth_bor, Y.isMth_neg, Y.isMth_notB, Y.isMth_eq, Y.isMth_ne, Y.isMth_lt, Y.isMth_le, Y.isMth_gt, Y.isMth_ge, Y.isMth_isN, Y.isMth_notN, Y.isMth_inn, Y.isMth_nin, Y.isMth_idx, Y.isMth_len, Y.isMth_abs, Y.isMth_int1, Y.isMth_str1, Y.isMth_min2, Y.isMth_max2, Y.isMth_minL, Y.isMth_maxL, Y.isMth_sumL, Y.isMth_anyL, Y.isMth_list1, Y.isMth_tuple1, Y.isMth_sorted1, Y.isMth_dict1, Y.isMth_emK, Y.isMth_emT, Y.isMth_join, Y.isMth_split, Y.isMth_find2, Y.isMth_find1, Y.isMth_index, Y.isMth_count, Y.isMth_get1, Y.isMth_get2, Y.isMth_sl, Y.isMth_isI, Y.isMth_tupD, Y.isMth_lstD, Y.isMth_fld, Y.imm_non, Y.imm_bl, Y.imm_int, Y.imm_str, Y.imm_bx, Y.imm_lst, Y.imm_dK, Y.imm_dT, Y.imm_obj, Y.imm_tup, Y.immL_n, Y.immL_c, Y.nbx_non, Y.nbx_bl, Y.nbx_int, Y.nbx_str, Y.nbx_bx, Y.nbx_lst, Y.nbx_dK, Y.nbx_dT, Y.nbx_obj, Y.nbx_tup, Y.nbxL_n, Y.nbxL_c, Y.nbxL_app, Y.immL_app, Y.nbxL_int, Y.nbxL_str, Y.immL_int, Y.immL_str, Y.tm_append, Y.tm_extend, Y.tm_pop0, Y.tm_pop1, Y.tm_remove, Y.tm_reverse, Y.tm_clear, Y.tm_insert, Y.tm_popd, Y.nbxL_T, Y.immL_T, List.all_cons, List.all_nil, List.length_cons, List.length_nil, List.length_map, List.length_append, Bool.and_true, Bool.true_and, Bool.or_true, Bool.true_or, Bool.or_false, Bool.false_or, Bool.not_false, Bool.not_true, Nat.reduceAdd, Nat.reduceSub, Nat.reduceLeDiff, Nat.reduceLT, Nat.reduceBEq, beq_self_eq_true, decide_true, decide_eq_true_eq, Nat.zero_le, Nat.le_refl, Y.mk_len, Y.isStr_i, Y.isInt_i, Y.isBl_i, $ds,*]); first | done | omega | fail "no")) only [Y.ev_v, Y.ev_vm, Y.ev_k, Y.ev_g, Y.evs_n, Y.evs_c, Y.ev_op, Y.ev_and, Y.ev_or, Y.ev_callP, Y.ev_callI, Y.ev_meth, Y.ev_mut, Y.ev_lc, Y.ev_mk, Y.evIt_seq, Y.evIt_rng, Y.evIt_enu, Y.evIt_rev, Y.tst_and, Y.tst_or, Y.tst_not, Y.tst_b, Y.tst_t, Y.exs_n, Y.exs_c, Y.ex_asg, Y.ex_unp, Y.ex_ex, Y.ex_ret, Y.ex_retN, Y.ex_raise, Y.ex_pass, Y.ex_cont, Y.ex_ite, Y.ex_for, Y.ex_sub, Y.ex_fld, Y.ex_fz, Y.forGo_n, Y.forB1, Y.forB2, Y.forB3, Y.callP_eq, Y.place_bx, Y.isMth_add, Y.isMth_sub, Y.isMth_mul, Y.isMth_fdiv, Y.isMth_mod, Y.isMth_pow, Y.isMth_shl, Y.isMth_shr, Y.isMth_band, Y.isMth_bor, Y.isMth_neg, Y.isMth_notB, Y.isMth_eq, Y.isMth_ne, Y.isMth_lt, Y.isMth_le, Y.isMth_gt, Y.isMth_ge, Y.isMth_isN, Y.isMth_notN, Y.isMth_inn, Y.isMth_nin, Y.isMth_idx, Y.isMth_len, Y.isMth_abs, Y.isMth_int1, Y.isMth_str1, Y.isMth_min2, Y.isMth_max2, Y.isMth_minL, Y.isMth_maxL, Y.isMth_sumL, Y.isMth_anyL, Y.isMth_list1, Y.isMth_tuple1, Y.isMth_sorted1, Y.isMth_dict1, Y.isMth_emK, Y.isMth_emT, Y.isMth_join, Y.isMth_split, Y.isMth_find2, Y.isMth_find1, Y.isMth_index, Y.isMth_count, Y.isMth_get1, Y.isMth_get2, Y.isMth_sl, Y.isMth_isI, Y.isMth_tupD, Y.isMth_lstD, Y.isMth_fld, Y.lk_s, Y.lkm_s, Y.lkb_s, Y.evsC_ok, Y.evsC_ex, Y.evsD_f, Y.evsD_v, Y.evsD_r, Y.evsD_ex, Y.opA_ok, Y.tyH_0, Y.tyH_1, Y.tyH_2, Y.tyH_3, Y.tyH_4, Y.tyH_5, Y.tyH_6, Y.tyH_7, Y.tyH_8, Y.tyH_9, Y.opA_m, Y.opM_t, Y.opA_ex, Y.opC_s, Y.opD_s, Y.derL_n, Y.derL_c, Y.derC_s, Y.der_non, Y.der_bl, Y.der_int, Y.der_str, Y.der_tup, Y.der_lst, Y.der_dK, Y.der_dT, Y.der_obj, Y.der_bx, Y.derB_s, Y.andA_ok, Y.orA_ok, Y.andA_ex, Y.orA_ex, Y.andB_q, Y.orB_q, Y.orM_ok, Y.orM_ex, Y.callA_ok, Y.callA_ex, Y.cpI_t, Y.cpR_ok, Y.cpR_ex, Y.icA_ok, Y.icA_ex, Y.icC_s, Y.icD_v, Y.icD_r, Y.icD_ex, Y.argsI_n, Y.argsI_c, Y.agC_s, Y.argI_v, Y.argI_r, Y.mtA_ok, Y.mtC_s, Y.mtD_s, Y.mtE_p, Y.mtE_i, Y.mtE_ex, Y.muA_ok, Y.muO_s, Y.muB_ok, Y.muB_ex, Y.muC_f, Y.muC_n, Y.muD_s, Y.muE_s, Y.lcA_ok, Y.lcA_ex, Y.lcD_ok, Y.lcF_1, Y.lcF_2, Y.lcB_q, Y.lcE_ok, Y.evC_n, Y.evC_c, Y.ecB_q, Y.lockO_n, Y.lockO_s, Y.mkA_s, Y.mkB_ok, Y.mkB_ex, Y.mkC_s, Y.mkD_t, Y.mkD_f, Y.mkD_ex, Y.tAnd_ok, Y.tOr_ok, Y.tAnd_m, Y.tOr_m, Y.tM_ok, Y.tNot_ok, Y.tB_ok, Y.tB_ex, Y.tT_ok, Y.tT2_s, Y.tB2_s, Y.tru_non, Y.tru_bl, Y.tru_int, Y.tru_lst, Y.tru_tup, Y.kS_nx, Y.kS_ct, Y.kS_ret, Y.kS_ex, Y.asgA_ok, Y.asgA_ex, Y.asgB_s, Y.bindV_v, Y.bindV_r, Y.bindV_b, Y.bindV_bn, Y.isCon_lst, Y.isCon_dK, Y.isCon_dT, Y.isCon_obj, Y.isCon_non, Y.isCon_bx, Y.isCon_tup, Y.isCon_bl, Y.isCon_int, Y.isCon_str, Y.imm_non, Y.imm_bl, Y.imm_int, Y.imm_str, Y.imm_bx, Y.imm_lst, Y.imm_dK, Y.imm_dT, Y.imm_obj, Y.imm_tup, Y.immL_n, Y.immL_c, Y.nbx_non, Y.nbx_bl, Y.nbx_int, Y.nbx_str, Y.nbx_bx, Y.nbx_lst, Y.nbx_dK, Y.nbx_dT, Y.nbx_obj, Y.nbx_tup, Y.nbxL_n, Y.nbxL_c, Y.nbxL_app, Y.immL_app, Y.nbxL_int, Y.nbxL_str, Y.immL_int, Y.immL_str, Y.snapF_nb, Y.argP_nb, Y.lentK_v, Y.lentK_r, Y.lentK_t, Y.argP_bv, Y.agB_s, Y.fits_r, Y.fits_v, Y.settle_v, Y.settle_r, Y.settle_t, Y.stT_s, Y.unpA_ok, Y.unpA_ex, Y.unpB_s, Y.unpTo_2, Y.unp2_s, Y.unpTo_5, Y.unpn_s, Y.exA_ok, Y.exA_ex, Y.retA_v, Y.retA_r, Y.retA_ex, Y.iteA_q, Y.iteA_ex, Y.forA_n, Y.forA_s, Y.unlk_nx, Y.unlk_ret, Y.unlk_ex, Y.lockB_eq, Y.lkB2_s, Y.lockOf_eq, Y.lkO2_s, Y.forK_nx, Y.forK_ct, Y.forK_ret, Y.forK_ex, Y.itS_ok, Y.itS_ex, Y.itE_ok, Y.itV_ok, Y.itS2_l, Y.itS2_t, Y.itE2_l, Y.itV2_l, Y.enuO_s, Y.revO_s, Y.itB_s, Y.items_v, Y.items_r, Y.items_t, Y.itT_s, Y.itR_1, Y.itR_2, Y.itR_ex, Y.sbA_v, Y.sbA_r, Y.sbA_ex, Y.sbB_ok, Y.sbC_ok, Y.sbD_s, Y.sbE_s, Y.fdA_v, Y.fdA_r, Y.fdA_ex, Y.fdB_ok, Y.fdD_s, Y.fzA_b, Y.fzB_s, Y.plA_s, Y.plB_s, Y.pg_n, Y.pg_c, Y.pgO_s, Y.ps_n, Y.ps_c, Y.psO_s, Y.kids_obj, Y.kids_lst, Y.kids_tup, Y.kids_dK, Y.kids_dT, Y.wk_obj, Y.wk_lst, Y.wk_tup, Y.wk_dK, Y.wk_dT, Y.setB_q, Y.sB2_s, Y.fnA_nx, Y.fnA_ret, Y.fnA_ex, Y.rnA_nx, Y.rnA_ret, Y.rnA_ex, Y.outP_v, Y.outP_r, Y.gam_call, Y.gam_cls, Y.norm_vl, Y.norm_fr, Y.mk_inj, Y.mk_one, Y.o_add, Y.o_sub, Y.o_mul, Y.o_fdiv, Y.o_mod, Y.o_pow, Y.o_shl, Y.o_shr, Y.o_band, Y.o_bor, Y.o_neg, Y.o_abs, Y.o_lt, Y.o_le, Y.o_gt, Y.o_ge, Y.o_min2, Y.o_max2, Y.bO_s, Y.bN_s, Y.o_eq, Y.o_ne, Y.eq_i, Y.eq_s, Y.eq_b, Y.o_notB, Y.o_isN, Y.o_notN, Y.o_isI, Y.isn_non, Y.isn_bl, Y.isn_int, Y.isn_str, Y.isn_tup, Y.isn_lst, Y.isT_non, Y.isT_bl, Y.isT_int, Y.isT_str, Y.isT_lst, Y.isT_tup, Y.o_adds, Y.o_lens, Y.o_idxs, Y.sO_s, Y.o_slhs, Y.o_slls, Y.o_sl2s, Y.sIx_p, Y.sIx_n0, Y.cut_hi, Y.cut_lo, Y.cut_2, Y.lsK_s, Y.tpK_s, Y.o_sl1t, Y.o_inn, Y.o_nin, Y.in_signM, Y.tru_s, Y.itS2_m, Y.o_lenl, Y.o_lent, Y.o_lend, Y.kid_eq, Y.kdJ_s, Y.kdD_s, Y.kdK_s, Y.kidK_v, Y.kidK_0, Y.kidK_1, Y.kidK_2, Y.kidK_t, Y.kkT_s, Y.ixN_p, Y.ixN_m, Y.o_idxl, Y.o_idxt, Y.isStr_i, Y.isInt_i, Y.isBl_i, Y.get_str, Y.get_int, Y.get_bl, Y.o_tup, Y.o_lst, Y.o_lst0, Y.o_tup0, Y.o_emK, Y.o_emT, Y.o_fld, Y.fO_s, Y.o_list1, Y.o_list1t, Y.o_list1d, Y.o_tup1, Y.o_addl, Y.adL_s, Y.o_addt, Y.adT_s, Y.mt_append, Y.mt_pop0, Y.poO_s, Y.mt_reverse, Y.mt_clear, Y.mt_extend, Y.tm_append, Y.tm_extend, Y.tm_pop0, Y.tm_pop1, Y.tm_remove, Y.tm_reverse, Y.tm_clear, Y.tm_insert, Y.o_find1, Y.o_find2, Y.o_str1, Y.o_int1, Y.o_int1i, Y.o_int1b, Y.range_0, Y.range_1, Y.range_2, Y.range_3, Y.range_4, Y.range_5, Y.sum_ints, Y.okD_int, Y.okD_bl, Y.okD_non, Y.okL_c, Y.okL_n, Y.okD_tup, Y.okD_lst, Y.get_last, Y.get_lastn, Y.drop_last, Y.whB_eq, Y.whA_q, Y.ex_whl, Y.ex_tr, Y.ex_tr0, Y.trA_nx, Y.trA_ct, Y.trA_ret, Y.trA_ex, Y.tr0A_nx, Y.tr0A_ct, Y.tr0A_ret, Y.subX_s, Y.subX_n, Y.suiteR_nx, Y.suiteR_ct, Y.suiteR_ret, Y.goneX_n, Y.goneX_s, Y.bindX_n, Y.bindX_s, Y.hotG_nx, Y.hotG_cls, Y.hotG_call, Y.gam_nx, Y.ev_isX, Y.ev_callX, Y.xOf_h, Y.xoA_s, Y.isXA_s, Y.cxA_s, Y.cxR_ok, Y.dPos_T, Y.dPos_I, Y.dIn_T, Y.dIn_I, Y.dIn_lT, Y.o_idxT, Y.o_idxI, Y.ioK_s, Y.goK_s, Y.goK_n, Y.o_get1T, Y.o_get1I, Y.o_get2T, Y.stO_s, Y.stO_n, Y.sv_T, Y.sv_I, Y.sv_l, Y.sfO_s, Y.sfO_n, Y.sf_o, Y.ppN_s, Y.ppO_s, Y.mt_popT, Y.mt_popI, Y.rmN_s, Y.mt_removeT, Y.mt_removeI, Y.tm_popd, Y.o_muls, Y.o_srtI, Y.o_srtT, Y.o_srdI, Y.o_srdT, Y.o_dict1, Y.dcO_s, Y.nbxL_T, Y.immL_T, Y.place_tl, Y.place_td, Y.place_to, Y.ev_ch, Y.chA_ok, Y.chB_ok, Y.chC_t, Y.chC_f, Y.chD_ok, Y.snoc_get, Y.snoc_set, Y.app_get, Y.app_set, Y.norm_lst, Y.norm_int, Y.norm_str, Y.norm_bl, Y.norm_non, Y.norm_tup, Y.norm_dK, Y.norm_obj, ite_self, Int.toNat_natCast, true_or, or_true, false_or, or_false, Int.cast_ofNat_Int, Int.natCast_one, Int.ofNat_zero, Int.reduceLT, Int.reduceLE, Int.reduceAdd, Int.reduceSub, Int.reduceEq, Int.reduceNe, Int.reduceNeg, List.cons.injEq, and_true, true_and, and_self, List.take_succ_cons, List.take_zero, List.drop_succ_cons, List.drop_zero, reduceCtorEq, not_true_eq_false, not_false_eq_true, eq_self, and_false, false_and, List.getElem?_cons_zero, List.getElem?_cons_succ, List.set_cons_zero, List.set_cons_succ, List.map_cons, List.map_nil, List.all_cons, List.all_nil, List.length_cons, List.length_nil, List.cons_append, List.nil_append, List.append_nil, List.replicate, Nat.sub_self, Bool.and_true, Bool.true_and, Bool.and_false, Bool.false_and, Bool.or_false, Bool.false_or, Bool.or_true, Bool.true_or, Bool.not_true, Bool.not_false, ite_true, ite_false, Bool.false_eq_true, reduceIte, if_true, if_false, decide_true, decide_false, Nat.reduceAdd, Nat.reduceSub, Nat.reduceLT, Nat.reduceLeDiff, Nat.reduceEqDiff, Int.reduceToNat, List.zip_cons_cons, List.zip_nil_left, List.foldl_cons, List.foldl_nil, Nat.reduceBEq, decide_eq_true_eq, Nat.zero_add, Nat.le_refl, Z.isVl, Nat.succ_eq_add_one, $ls,*])
  | `(tactic| simp_arith (disch := simp only [$ds,*]) only [$ls,*] at $h:ident) => `(tactic| simp (disch := first | assumption | omega | ((try simp only [Y.fits_r, Y.fits_v, Y.isCon_lst, Y.isCon_dK, Y.isCon_dT, Y.isCon_obj, Y.isCon_non, Y.isCon_bx, Y.isCon_tup, Y.isCon_bl, Y.isCon_int, Y.isCon_str, Y.isMth_add, Y.isMth_sub, Y.isMth_mul, Y.isMth_fdiv, Y.isMth_mod, Y.isMth_pow, Y.isMth_shl, Y.isMth_shr, Y.isMth_band, Y.isMth_bor, Y.isMth_neg, Y.isMth_notB, Y.isMth_eq, Y.isMth_ne, Y.isMth_lt, Y.isMth_le, Y.isMth_gt, Y.isMth_ge, Y.isMth_isN, Y.isMth_notN, Y.isMth_inn, Y.isMth_nin, Y.isMth_idx, Y.isMth_len, Y.isMth_abs, Y.isMth_int1, Y.isMth_str1, Y.isMth_min2, Y.isMth_max2, Y.isMth_minL, Y.isMth_maxL, Y.isMth_sumL, Y.isMth_anyL, Y.isMth_list1, Y.isMth_tuple1, Y.isMth_sorted1, Y.isMth_dict1, Y.isMth_emK, Y.isMth_emT, Y.isMth_join, Y.isMth_split, Y.isMth_find2, Y.isMth_find1, Y.isMth_index, Y.isMth_count, Y.isMth_get1, Y.isMth_get2, Y.isMth_sl, Y.isMth_isI, Y.isMth_tupD, Y.isMth_lstD, Y.isMth_fld, Y.imm_non, Y.imm_bl, Y.imm_int, Y.imm_str, Y.imm_bx, Y.imm_lst, Y.imm_dK, Y.imm_dT, Y.imm_obj, Y.imm_tup, Y.immL_n, Y.immL_c, Y.nbx_non, Y.nbx_bl, Y.nbx_int, Y.nbx_str, Y.nbx_bx, Y.nbx_lst, Y.nbx_dK, Y.nbx_dT, Y.nbx_obj, Y.nbx_tup, Y.nbxL_n, Y.nbxL_c, Y.nbxL_app, Y.immL_app, Y.nbxL_int, Y.nbxL_str, Y.immL_int, Y.immL_str, Y.tm_append, Y.tm_extend, Y.tm_pop0, Y.tm_pop1, Y.tm_remove, Y.tm_reverse, Y.tm_clear, Y.tm_insert, Y.tm_popd, Y.nbxL_T, Y.immL_T, List.all_cons, List.all_nil, List.length_cons, List.length_nil, List.length_map, List.length_append, Bool.and_true, Bool.true_and, Bool.or_true, Bool.true_or, Bool.or_false, Bool.false_or, Bool.not_false, Bool.not_true, Nat.reduceAdd, Nat.reduceSub, Nat.reduceLeDiff, Nat.reduceLT, Nat.reduceBEq, beq_self_eq_true, decide_true, decide_eq_true_eq, Nat.zero_le, Nat.le_refl, Y.mk_len, Y.isStr_i, Y.isInt_i, Y.isBl_i, $ds,*]); first | done | omega | fail "no")) only [Y.ev_v, Y.ev_vm, Y.ev_k, Y.ev_g, Y.evs_n, Y.evs_c, Y.ev_op, Y.ev_and, Y.ev_or, Y.ev_callP, Y.ev_callI, Y.ev_meth, Y.ev_mut, Y.ev_lc, Y.ev_mk, Y.evIt_seq, Y.evIt_rng, Y.evIt_enu, Y.evIt_rev, Y.tst_and, Y.tst_or, Y.tst_not, Y.tst_b, Y.tst_t, Y.exs_n, Y.exs_c, Y.ex_asg, Y.ex_unp, Y.ex_ex, Y.ex_ret, Y.ex_retN, Y.ex_raise, Y.ex_pass, Y.ex_cont, Y.ex_ite, Y.ex_for, Y.ex_sub, Y.ex_fld, Y.ex_fz, Y.forGo_n, Y.forB1, Y.forB2, Y.forB3, Y.callP_eq, Y.place_bx, Y.isMth_add, Y.isMth_sub, Y.isMth_mul, Y.isMth_fdiv, Y.isMth_mod, Y.isMth_pow, Y.isMth_shl, Y.isMth_shr, Y.isMth_band, Y.isMth_bor, Y.isMth_neg, Y.isMth_notB, Y.isMth_eq, Y.isMth_ne, Y.isMth_lt, Y.isMth_le, Y.isMth_gt, Y.isMth_ge, Y.isMth_isN, Y.isMth_notN, Y.isMth_inn, Y.isMth_nin, Y.isMth_idx, Y.isMth_len, Y.isMth_abs, Y.isMth_int1, Y.isMth_str1, Y.isMth_min2, Y.isMth_max2, Y.isMth_minL, Y.isMth_maxL, Y.isMth_sumL, Y.isMth_anyL, Y.isMth_list1, Y.isMth_tuple1, Y.isMth_sorted1, Y.isMth_dict1, Y.isMth_emK, Y.isMth_emT, Y.isMth_join, Y.isMth_split, Y.isMth_find2, Y.isMth_find1, Y.isMth_index, Y.isMth_count, Y.isMth_get1, Y.isMth_get2, Y.isMth_sl, Y.isMth_isI, Y.isMth_tupD, Y.isMth_lstD, Y.isMth_fld, Y.lk_s, Y.lkm_s, Y.lkb_s, Y.evsC_ok, Y.evsC_ex, Y.evsD_f, Y.evsD_v, Y.evsD_r, Y.evsD_ex, Y.opA_ok, Y.tyH_0, Y.tyH_1, Y.tyH_2, Y.tyH_3, Y.tyH_4, Y.tyH_5, Y.tyH_6, Y.tyH_7, Y.tyH_8, Y.tyH_9, Y.opA_m, Y.opM_t, Y.opA_ex, Y.opC_s, Y.opD_s, Y.derL_n, Y.derL_c, Y.derC_s, Y.der_non, Y.der_bl, Y.der_int, Y.der_str, Y.der_tup, Y.der_lst, Y.der_dK, Y.der_dT, Y.der_obj, Y.der_bx, Y.derB_s, Y.andA_ok, Y.orA_ok, Y.andA_ex, Y.orA_ex, Y.andB_q, Y.orB_q, Y.orM_ok, Y.orM_ex, Y.callA_ok, Y.callA_ex, Y.cpI_t, Y.cpR_ok, Y.cpR_ex, Y.icA_ok, Y.icA_ex, Y.icC_s, Y.icD_v, Y.icD_r, Y.icD_ex, Y.argsI_n, Y.argsI_c, Y.agC_s, Y.argI_v, Y.argI_r, Y.mtA_ok, Y.mtC_s, Y.mtD_s, Y.mtE_p, Y.mtE_i, Y.mtE_ex, Y.muA_ok, Y.muO_s, Y.muB_ok, Y.muB_ex, Y.muC_f, Y.muC_n, Y.muD_s, Y.muE_s, Y.lcA_ok, Y.lcA_ex, Y.lcD_ok, Y.lcF_1, Y.lcF_2, Y.lcB_q, Y.lcE_ok, Y.evC_n, Y.evC_c, Y.ecB_q, Y.lockO_n, Y.lockO_s, Y.mkA_s, Y.mkB_ok, Y.mkB_ex, Y.mkC_s, Y.mkD_t, Y.mkD_f, Y.mkD_ex, Y.tAnd_ok, Y.tOr_ok, Y.tAnd_m, Y.tOr_m, Y.tM_ok, Y.tNot_ok, Y.tB_ok, Y.tB_ex, Y.tT_ok, Y.tT2_s, Y.tB2_s, Y.tru_non, Y.tru_bl, Y.tru_int, Y.tru_lst, Y.tru_tup, Y.kS_nx, Y.kS_ct, Y.kS_ret, Y.kS_ex, Y.asgA_ok, Y.asgA_ex, Y.asgB_s, Y.bindV_v, Y.bindV_r, Y.bindV_b, Y.bindV_bn, Y.isCon_lst, Y.isCon_dK, Y.isCon_dT, Y.isCon_obj, Y.isCon_non, Y.isCon_bx, Y.isCon_tup, Y.isCon_bl, Y.isCon_int, Y.isCon_str, Y.imm_non, Y.imm_bl, Y.imm_int, Y.imm_str, Y.imm_bx, Y.imm_lst, Y.imm_dK, Y.imm_dT, Y.imm_obj, Y.imm_tup, Y.immL_n, Y.immL_c, Y.nbx_non, Y.nbx_bl, Y.nbx_int, Y.nbx_str, Y.nbx_bx, Y.nbx_lst, Y.nbx_dK, Y.nbx_dT, Y.nbx_obj, Y.nbx_tup, Y.nbxL_n, Y.nbxL_c, Y.nbxL_app, Y.immL_app, Y.nbxL_int, Y.nbxL_str, Y.immL_int, Y.immL_str, Y.snapF_nb, Y.argP_nb, Y.lentK_v, Y.lentK_r, Y.lentK_t, Y.argP_bv, Y.agB_s, Y.fits_r, Y.fits_v, Y.settle_v, Y.settle_r, Y.settle_t, Y.stT_s, Y.unpA_ok, Y.unpA_ex, Y.unpB_s, Y.unpTo_2, Y.unp2_s, Y.unpTo_5, Y.unpn_s, Y.exA_ok, Y.exA_ex, Y.retA_v, Y.retA_r, Y.retA_ex, Y.iteA_q, Y.iteA_ex, Y.forA_n, Y.forA_s, Y.unlk_nx, Y.unlk_ret, Y.unlk_ex, Y.lockB_eq, Y.lkB2_s, Y.lockOf_eq, Y.lkO2_s, Y.forK_nx, Y.forK_ct, Y.forK_ret, Y.forK_ex, Y.itS_ok, Y.itS_ex, Y.itE_ok, Y.itV_ok, Y.itS2_l, Y.itS2_t, Y.itE2_l, Y.itV2_l, Y.enuO_s, Y.revO_s, Y.itB_s, Y.items_v, Y.items_r, Y.items_t, Y.itT_s, Y.itR_1, Y.itR_2, Y.itR_ex, Y.sbA_v, Y.sbA_r, Y.sbA_ex, Y.sbB_ok, Y.sbC_ok, Y.sbD_s, Y.sbE_s, Y.fdA_v, Y.fdA_r, Y.fdA_ex, Y.fdB_ok, Y.fdD_s, Y.fzA_b, Y.fzB_s, Y.plA_s, Y.plB_s, Y.pg_n, Y.pg_c, Y.pgO_s, Y.ps_n, Y.ps_c, Y.psO_s, Y.kids_obj, Y.kids_lst, Y.kids_tup, Y.kids_dK, Y.kids_dT, Y.wk_obj, Y.wk_lst, Y.wk_tup, Y.wk_dK, Y.wk_dT, Y.setB_q, Y.sB2_s, Y.fnA_nx, Y.fnA_ret, Y.fnA_ex, Y.rnA_nx, Y.rnA_ret, Y.rnA_ex, Y.outP_v, Y.outP_r, Y.gam_call, Y.gam_cls, Y.norm_vl, Y.norm_fr, Y.mk_inj, Y.mk_one, Y.o_add, Y.o_sub, Y.o_mul, Y.o_fdiv, Y.o_mod, Y.o_pow, Y.o_shl, Y.o_shr, Y.o_band, Y.o_bor, Y.o_neg, Y.o_abs, Y.o_lt, Y.o_le, Y.o_gt, Y.o_ge, Y.o_min2, Y.o_max2, Y.bO_s, Y.bN_s, Y.o_eq, Y.o_ne, Y.eq_i, Y.eq_s, Y.eq_b, Y.o_notB, Y.o_isN, Y.o_notN, Y.o_isI, Y.isn_non, Y.isn_bl, Y.isn_int, Y.isn_str, Y.isn_tup, Y.isn_lst, Y.isT_non, Y.isT_bl, Y.isT_int, Y.isT_str, Y.isT_lst, Y.isT_tup, Y.o_adds, Y.o_lens, Y.o_idxs, Y.sO_s, Y.o_slhs, Y.o_slls, Y.o_sl2s, Y.sIx_p, Y.sIx_n0, Y.cut_hi, Y.cut_lo, Y.cut_2, Y.lsK_s, Y.tpK_s, Y.o_sl1t, Y.o_inn, Y.o_nin, Y.in_signM, Y.tru_s, Y.itS2_m, Y.o_lenl, Y.o_lent, Y.o_lend, Y.kid_eq, Y.kdJ_s, Y.kdD_s, Y.kdK_s, Y.kidK_v, Y.kidK_0, Y.kidK_1, Y.kidK_2, Y.kidK_t, Y.kkT_s, Y.ixN_p, Y.ixN_m, Y.o_idxl, Y.o_idxt, Y.isStr_i, Y.isInt_i, Y.isBl_i, Y.get_str, Y.get_int, Y.get_bl, Y.o_tup, Y.o_lst, Y.o_lst0, Y.o_tup0, Y.o_emK, Y.o_emT, Y.o_fld, Y.fO_s, Y.o_list1, Y.o_list1t, Y.o_list1d, Y.o_tup1, Y.o_addl, Y.adL_s, Y.o_addt, Y.adT_s, Y.mt_append, Y.mt_pop0, Y.poO_s, Y.mt_reverse, Y.mt_clear, Y.mt_extend, Y.tm_append, Y.tm_extend, Y.tm_pop0, Y.tm_pop1, Y.tm_remove, Y.tm_reverse, Y.tm_clear, Y.tm_insert, Y.o_find1, Y.o_find2, Y.o_str1, Y.o_int1, Y.o_int1i, Y.o_int1b, Y.range_0, Y.range_1, Y.range_2, Y.range_3, Y.range_4, Y.range_5, Y.sum_ints, Y.okD_int, Y.okD_bl, Y.okD_non, Y.okL_c, Y.okL_n, Y.okD_tup, Y.okD_lst, Y.get_last, Y.get_lastn, Y.drop_last, Y.whB_eq, Y.whA_q, Y.ex_whl, Y.ex_tr, Y.ex_tr0, Y.trA_nx, Y.trA_ct, Y.trA_ret, Y.trA_ex, Y.tr0A_nx, Y.tr0A_ct, Y.tr0A_ret, Y.subX_s, Y.subX_n, Y.suiteR_nx, Y.suiteR_ct, Y.suiteR_ret, Y.goneX_n, Y.goneX_s, Y.bindX_n, Y.bindX_s, Y.hotG_nx, Y.hotG_cls, Y.hotG_call, Y.gam_nx, Y.ev_isX, Y.ev_callX, Y.xOf_h, Y.xoA_s, Y.isXA_s, Y.cxA_s, Y.cxR_ok, Y.dPos_T, Y.dPos_I, Y.dIn_T, Y.dIn_I, Y.dIn_lT, Y.o_idxT, Y.o_idxI, Y.ioK_s, Y.goK_s, Y.goK_n, Y.o_get1T, Y.o_get1I, Y.o_get2T, Y.stO_s, Y.stO_n, Y.sv_T, Y.sv_I, Y.sv_l, Y.sfO_s, Y.sfO_n, Y.sf_o, Y.ppN_s, Y.ppO_s, Y.mt_popT, Y.mt_popI, Y.rmN_s, Y.mt_removeT, Y.mt_removeI, Y.tm_popd, Y.o_muls, Y.o_srtI, Y.o_srtT, Y.o_srdI, Y.o_srdT, Y.o_dict1, Y.dcO_s, Y.nbxL_T, Y.immL_T, Y.place_tl, Y.place_td, Y.place_to, Y.ev_ch, Y.chA_ok, Y.chB_ok, Y.chC_t, Y.chC_f, Y.chD_ok, Y.snoc_get, Y.snoc_set, Y.app_get, Y.app_set, Y.norm_lst, Y.norm_int, Y.norm_str, Y.norm_bl, Y.norm_non, Y.norm_tup, Y.norm_dK, Y.norm_obj, ite_self, Int.toNat_natCast, true_or, or_true, false_or, or_false, Int.cast_ofNat_Int, Int.natCast_one, Int.ofNat_zero, Int.reduceLT, Int.reduceLE, Int.reduceAdd, Int.reduceSub, Int.reduceEq, Int.reduceNe, Int.reduceNeg, List.cons.injEq, and_true, true_and, and_self, List.take_succ_cons, List.take_zero, List.drop_succ_cons, List.drop_zero, reduceCtorEq, not_true_eq_false, not_false_eq_true, eq_self, and_false, false_and, List.getElem?_cons_zero, List.getElem?_cons_succ, List.set_cons_zero, List.set_cons_succ, List.map_cons, List.map_nil, List.all_cons, List.all_nil, List.length_cons, List.length_nil, List.cons_append, List.nil_append, List.append_nil, List.replicate, Nat.sub_self, Bool.and_true, Bool.true_and, Bool.and_false, Bool.false_and, Bool.or_false, Bool.false_or, Bool.or_true, Bool.true_or, Bool.not_true, Bool.not_false, ite_true, ite_false, Bool.false_eq_true, reduceIte, if_true, if_false, decide_true, decide_false, Nat.reduceAdd, Nat.reduceSub, Nat.reduceLT, Nat.reduceLeDiff, Nat.reduceEqDiff, Int.reduceToNat, List.zip_cons_cons, List.zip_nil_left, List.foldl_cons, List.foldl_nil, Nat.reduceBEq, decide_eq_true_eq, Nat.zero_add, Nat.le_refl, Z.isVl, Nat.succ_eq_add_one, $ls,*] at $h:ident)
abbrev lets : List Nat := [97, 98, 99, 100, 101, 102, 103, 104, 105, 106, 107, 108, 109, 110, 111, 112, 113, 114, 115, 116, 117, 118, 119, 120, 121, 122]
abbrev Nm := List Nat
def letA (a : Nm) : Bool := a.all fun c => decide (c ∈ lets)
/-- a good name -/
def goodA (a : Nm) : Bool := decide (1 ≤ a.length) && decide (a.length ≤ 12) && letA a
theorem letA_c {c : Nat} {a : Nm} : letA (c :: a) = (decide (c ∈ lets) && letA a) := rfl
theorem letA_app {a b : Nm} : letA (a ++ b) = (letA a && letA b) := List.all_append
theorem letA_rep {c n : Nat} (h : c ∈ lets) : letA (List.replicate n c) = true := List.all_eq_true.mpr fun x hx => decide_eq_true (List.eq_of_mem_replicate hx ▸ h)
theorem goodA_iff {a : Nm} : goodA a = true ↔ 1 ≤ a.length ∧ a.length ≤ 12 ∧ letA a = true := by
  unfold goodA
  rw [Bool.and_eq_true, Bool.and_eq_true, decide_eq_true_eq, decide_eq_true_eq, and_assoc]
theorem goodA_small {a : Nm} (h : goodA a = true) : a.all (· < 0x110000) = true := by
  refine List.all_eq_true.mpr fun c hc => ?_
  have := of_decide_eq_true (List.all_eq_true.mp (goodA_iff.mp h).2.2 c hc)
  have h2 : c ≤ 122 := by
    simp only [List.mem_cons, List.not_mem_nil, or_false] at this
    omega
  exact decide_eq_true (by omega)
theorem good_loop {n : Nat} {e0 : Option (Bool × D)} {S : Sto} : ∀ {a : Nm}, letA a = true → ∀ o, ∃ o', forGo (a.map fun c => (false, .str (mkS [c]))) (Y.forB (gam P n) [1] false b_good_name_0) [e0, o] S = .nx [e0, o'] S
  | [], _, o => ⟨o, rfl⟩
  | c :: a, h, o => by
    obtain ⟨h1, h2⟩ := Bool.and_eq_true_iff.mp (letA_c ▸ h)
    have hc := of_decide_eq_true h1
    obtain ⟨o', ih⟩ := good_loop (n := n) (e0 := e0) (S := S) h2 (some (false, .str (mkS [c])))
    refine ⟨o', ?_⟩
    rw [List.map_cons, Y.forGo_c, ← ih]
    simp_arith (disch := simp only [b_good_name_0, hc]) only [b_good_name_0, hc]
theorem good_bad {n : Nat} {e0 : Option (Bool × D)} {S : Sto} : ∀ {a : Nm}, letA a = false → ∀ o, forGo (a.map fun c => (false, .str (mkS [c]))) (Y.forB (gam P n) [1] false b_good_name_0) [e0, o] S = .ret (.vl false) (.bl false) S
  | [], h, o => by cases h
  | c :: a, h, o => by
    by_cases hc : c ∈ lets
    · have h2 : letA a = false := by rw [letA_c, decide_eq_true hc] at h; exact h
      have ih := good_bad (n := n) (e0 := e0) (S := S) h2 (some (false, .str (mkS [c])))
      rw [List.map_cons, Y.forGo_c, ← ih]
      simp_arith (disch := simp only [b_good_name_0, hc]) only [b_good_name_0, hc]
    · rw [List.map_cons, Y.forGo_c]
      simp_arith (disch := simp only [b_good_name_0, hc]) only [b_good_name_0, hc]
theorem good_run (n : Nat) {a : Nm} (hl : a.length ≤ 100) {l : Bool} : Y.fnr P (n + 1) i_good_name [(l, .str (mkS a))] = .ok (.vl false, .bl (goodA a)) := by
  rw [Y.fnr_eq (fi := f_good_name) rfl rfl]
  by_cases h1 : 1 ≤ a.length
  · by_cases h2 : a.length ≤ 12
    · have t1 : ¬ (a.length : Int) < 1 := by omega
      have t2 : ¬ (12 : Int) < a.length := by omega
      cases h3 : letA a with
      | true =>
        obtain ⟨o', lp⟩ := good_loop (n := n) (e0 := some (l, .str (mkS a))) (S := []) h3 none
        have g : goodA a = true := goodA_iff.mpr ⟨h1, h2, h3⟩
        simp_arith (disch := simp only [f_good_name, b_good_name, t1, t2, lp, g]) only [f_good_name, b_good_name, t1, t2, lp, g]
      | false =>
        have lp := good_bad (n := n) (e0 := some (l, .str (mkS a))) (S := []) h3 none
        have g : goodA a = false := Bool.eq_false_iff.mpr fun h => by rw [(goodA_iff.mp h).2.2] at h3; cases h3
        simp_arith (disch := simp only [f_good_name, b_good_name, t1, t2, lp, g]) only [f_good_name, b_good_name, t1, t2, lp, g]
    · have t1 : ¬ (a.length : Int) < 1 := by omega
      have t2 : (12 : Int) < a.length := by omega
      have g : goodA a = false := Bool.eq_false_iff.mpr fun h => h2 (goodA_iff.mp h).2.1
      simp_arith (disch := simp only [f_good_name, b_good_name, t1, t2, g]) only [f_good_name, b_good_name, t1, t2, g]
  · have t1 : (a.length : Int) < 1 := by omega
    have g : goodA a = false := Bool.eq_false_iff.mpr fun h => h1 (goodA_iff.mp h).1
    simp_arith (disch := simp only [f_good_name, b_good_name, t1, g]) only [f_good_name, b_good_name, t1, g]
theorem numL_head {m : Nat} (h : m ≠ 0) : ∃ c r, numL m = c :: r ∧ 49 ≤ c ∧ c ≤ 57 := by
  induction m using Nat.strongRecOn with
  | _ m ih =>
    by_cases q : m < 10
    · exact ⟨48 + m, [], numL_lt q, by omega, by omega⟩
    · obtain ⟨c, r, e, h1, h2⟩ := ih (m / 10) (by omega) (by omega)
      exact ⟨c, r ++ [48 + m % 10], by rw [numL_step (by omega), e]; rfl, h1, h2⟩
abbrev figs : List Nat := [48, 49, 50, 51, 52, 53, 54, 55, 56, 57]
theorem dig_mem {c : Nat} (h : 48 ≤ c ∧ c ≤ 57) : c ∈ figs := by
  have : c = 48 ∨ c = 49 ∨ c = 50 ∨ c = 51 ∨ c = 52 ∨ c = 53 ∨ c = 54 ∨ c = 55 ∨ c = 56 ∨ c = 57 := by omega
  rcases this with h | h | h | h | h | h | h | h | h | h <;> subst h <;> decide
theorem read_loop {n : Nat} {e0 e1 e2 : Option (Bool × D)} {S : Sto} : ∀ {a : List Nat}, NumText.AllDigits a → ∀ o, ∃ o', forGo (a.map fun c => (false, .str (mkS [c]))) (Y.forB (gam P n) [3] false b_number_read_0) [e0, e1, e2, o] S = .nx [e0, e1, e2, o'] S
  | [], _, o => ⟨o, rfl⟩
  | c :: a, h, o => by
    have hc : c ∈ figs := dig_mem (h c List.mem_cons_self)
    obtain ⟨o', ih⟩ := read_loop (n := n) (e0 := e0) (e1 := e1) (e2 := e2) (S := S) (fun x hx => h x (List.mem_cons_of_mem _ hx)) (some (false, .str (mkS [c])))
    refine ⟨o', ?_⟩
    rw [List.map_cons, Y.forGo_c, ← ih]
    simp_arith (disch := simp only [b_number_read_0, hc]) only [b_number_read_0, hc]
theorem len60 {m : Nat} (h : m < 10 ^ 60) : (numL m).length ≤ 60 := numL_len (by decide) h
theorem at0 {c : Nat} {r : List Nat} : atI (c :: r) 0 = some c := by
  rw [Y.atI_p (by decide) (by simp)]; rfl
/-- the signs of m -/
theorem numL_facts (m : Nat) : ∃ c r, numL m = c :: r ∧ c ≠ 45 ∧ (48 < c ∨ (m = 0 ∧ c = 48 ∧ r = [])) := by
  by_cases q : m = 0
  · subst q; exact ⟨48, [], numL_lt (by decide), by decide, .inr ⟨rfl, rfl, rfl⟩⟩
  · obtain ⟨c, r, e, h1, h2⟩ := numL_head q
    exact ⟨c, r, e, by omega, .inl (by omega)⟩
theorem read_pos (n : Nat) {m : Nat} (h : m < 10 ^ 60) {l : Bool} : Y.fnr P (n + 1) i_number_read [(l, .str (mkS (numL m)))] = .ok (.vl false, .int m) := by
  rw [Y.fnr_eq (fi := f_number_read) rfl rfl]
  have hl := len60 h
  have hd := numL_digits m
  have hv := numL_val m
  have hne := numL_ne m
  obtain ⟨c, r, e, h45, hc⟩ := numL_facts m
  have t1 : ¬ (numL m).take 1 = [45] := by rw [e]; simpa using h45
  have t2 : atI (numL m) 0 = some c := by rw [e]; exact at0
  have hl1 : 0 < (numL m).length := by rw [e]; simp
  obtain ⟨o', lp⟩ := read_loop (n := n) (e0 := some (l, .str (mkS (numL m)))) (e1 := some (false, .bl false)) (e2 := some (false, .str (mkS (numL m)))) (S := []) hd none
  have t3 : ¬ ((numL m).length : Int) < 1 := by omega
  have t4 : ¬ (60 : Int) < (numL m).length := by omega
  by_cases q : c = 48
  · have t5 : numL m = [48] := by
      rcases hc with hc | ⟨rfl, rfl, rfl⟩
      · omega
      · exact e
    have t6 : (m : Int) = 0 := by
      rcases hc with hc | ⟨rfl, rfl, rfl⟩
      · omega
      · rfl
    rw [t5] at hv ⊢
    rw [t6]
    have hv' : NumText.digitsVal [48] = 0 := rfl
    have hd' : NumText.AllDigits [48] := t5 ▸ hd
    have hne' : ([48] : List Nat) ≠ [] := by decide
    simp_arith (disch := simp only [f_number_read, b_number_read, Y.cut_hi, Y.forGo_c, b_number_read_0, at0, hv', List.mem_cons]) only [f_number_read, b_number_read, Y.cut_hi, Y.forGo_c, b_number_read_0, at0, hv', List.mem_cons]
  · simp_arith (disch := simp only [f_number_read, b_number_read, Y.cut_hi, t1, t2, t3, t4, lp, q, hv]) only [f_number_read, b_number_read, Y.cut_hi, t1, t2, t3, t4, lp, q, hv]
theorem read_neg (n : Nat) {m : Nat} (h : m < 10 ^ 60) (h0 : m ≠ 0) {l : Bool} : Y.fnr P (n + 1) i_number_read [(l, .str (mkS (45 :: numL m)))] = .ok (.vl false, .int (-m)) := by
  rw [Y.fnr_eq (fi := f_number_read) rfl rfl]
  have hl := len60 h
  have hd := numL_digits m
  have hv := numL_val m
  have hne := numL_ne m
  obtain ⟨c, r, e, hc1, hc2⟩ := numL_head h0
  have t2 : atI (numL m) 0 = some c := by rw [e]; exact at0
  have hl1 : 0 < (numL m).length := by rw [e]; simp
  obtain ⟨o', lp⟩ := read_loop (n := n) (e0 := some (l, .str (mkS (45 :: numL m)))) (e1 := some (false, .bl true)) (e2 := some (false, .str (mkS (numL m)))) (S := []) hd none
  have t3 : ¬ ((numL m).length : Int) < 1 := by omega
  have t4 : ¬ (60 : Int) < (numL m).length := by omega
  have q : ¬ c = 48 := by omega
  simp_arith (disch := simp only [f_number_read, b_number_read, Y.cut_hi, Y.cut_lo, t2, t3, t4, lp, q, hv]) only [f_number_read, b_number_read, Y.cut_hi, Y.cut_lo, t2, t3, t4, lp, q, hv]
theorem intL_len {v : Int} (h1 : -(10 ^ 60) < v) (h2 : v < 10 ^ 60) : (Y.intL v).length ≤ 61 := by
  unfold Y.intL
  split
  · have := len60 (m := v.natAbs) (by omega)
    simp only [List.length_cons]; omega
  · have := len60 (m := v.natAbs) (by omega)
    omega
theorem read_int (n : Nat) {v : Int} (h1 : -(10 ^ 60) < v) (h2 : v < 10 ^ 60) {l : Bool} : Y.fnr P (n + 1) i_number_read [(l, .str (mkS (Y.intL v)))] = .ok (.vl false, .int v) := by
  obtain ⟨m, hm⟩ : ∃ m, m = v.natAbs := ⟨_, rfl⟩
  unfold Y.intL
  rw [← hm]
  by_cases hn : v < 0
  · rw [if_pos hn, read_neg n (by omega) (by omega), show -(m : Int) = v by omega]
  · rw [if_neg hn, read_pos n (by omega), show (m : Int) = v by omega]
theorem find_at {A M B : List Nat} (h : 93 ∉ M) : Txt.find3 (mkS (A ++ M ++ [93] ++ B)) (mkS [93]) A.length = ((A.length + M.length : Nat) : Int) := by
  obtain ⟨x, hx⟩ : ∃ x, x = mkS (A ++ M ++ [93] ++ B) := ⟨_, rfl⟩
  have hl : x.length = A.length + M.length + 1 + B.length := by
    rw [hx, Y.mk_len]; simp only [List.length_append, List.length_cons, List.length_nil]
  have hg : ∀ v c, x.cps.getD v 0 = c → v < x.length → (A ++ M ++ [93] ++ B)[v]? = some c := fun v c h1 h2 => by
    have := StrLaws.getElem?_of_getD h2 h1
    rw [hx] at this
    exact this
  have hi : ∀ (v c : Nat), (A ++ M ++ [93] ++ B)[v]? = some c → x.cps.getD v 0 = c := fun v c h => StrLaws.getD_of_getElem? (by rw [hx]; exact h)
  have hf : fromIndex x.length (A.length : Int) = A.length := by
    unfold fromIndex
    rw [if_neg (by omega)]
    omega
  have hp : (A ++ M ++ [93] ++ B)[A.length + M.length]? = some 93 := by
    rw [List.append_assoc, List.getElem?_append_right (by simp), List.length_append, Nat.sub_self]; rfl
  have hno : ∀ v, A.length ≤ v → v < A.length + M.length → x.cps.getD v 0 ≠ 93 := fun v h1 h2 he => by
    have := hg v 93 he (by omega)
    rw [List.append_assoc, List.getElem?_append_left (by rw [List.length_append]; omega), List.getElem?_append_right h1] at this
    exact h (List.mem_of_getElem? this)
  rw [← hx]
  rcases StrLaws.find3_spec x 93 (A.length : Int) with ⟨_, h2⟩ | ⟨k, h1, h2, h3, h4, h5⟩
  · rw [hf] at h2
    exact absurd (hi _ _ hp) (h2 _ (by omega) (by omega))
  · rw [hf] at h2 h5
    have e : k = A.length + M.length := by
      rcases Nat.lt_trichotomy k (A.length + M.length) with q | q | q
      · exact absurd h4 (hno k h2 q)
      · exact q
      · exact absurd (hi _ _ hp) (h5 _ (by omega) q)
    rw [← e]
    exact h1
abbrev nCond : Cd := .and' (.b (.op .lt [(.v 1 false), (.op .len [(.v 0 false)])])) (.b (.op .inn [(.op .idx [(.v 0 false), (.v 1 false)]), (.g "LETTERS_pieces" (.str (mkS [97, 98, 99, 100, 101, 102, 103, 104, 105, 106, 107, 108, 109, 110, 111, 112, 113, 114, 115, 116, 117, 118, 119, 120, 121, 122])))]))
theorem letA_get {a : Nm} (h : letA a = true) {j c : Nat} (hj : a[j]? = some c) : c ∈ lets := of_decide_eq_true (List.all_eq_true.mp h c (List.mem_of_getElem? hj))
theorem atI_nat {xs : List Nat} {j c : Nat} (h : xs[j]? = some c) : atI xs (j : Int) = some c := by
  have := (List.getElem?_eq_some_iff.mp h).1
  rw [Y.atI_p (by omega) (by omega), Int.toNat_natCast]; exact h
theorem end_loop (n : Nat) {T A nm B : List Nat} {x0 : Option (Bool × D)} {l q : Bool} (hT : T = A ++ nm ++ B) (hl : T.length ≤ 100000) (hn : letA nm = true) (hB : ∀ c r, B = c :: r → c ∉ lets) :
    ∃ q', whGo (Y.whB (gam P n) nCond b_name_end_0) whMost [some (l, .str (mkS T)), some (q, .int A.length)] [] = .nx [some (l, .str (mkS T)), some (q', .int ((A.length + nm.length : Nat) : Int))] [] := by
  have tl : T.length = A.length + nm.length + B.length := by rw [hT]; simp only [List.length_append]
  obtain ⟨e', s', h1, h2⟩ := Y.wh_inv (F := Y.whB (gam P n) nCond b_name_end_0) (fun k e s => s = [] ∧ k ≤ nm.length ∧ ∃ q, e = [some (l, .str (mkS T)), some (q, .int ((A.length + (nm.length - k) : Nat) : Int))])
    (fun k e s ⟨hs, hk, q, he⟩ => by
      subst hs he
      obtain ⟨c, hc⟩ : ∃ c, nm[nm.length - (k + 1)]? = some c := ⟨_, List.getElem?_eq_getElem (by omega)⟩
      have hx : T[A.length + (nm.length - (k + 1))]? = some c := by
        rw [hT, List.append_assoc, List.getElem?_append_right (by omega), Nat.add_sub_cancel_left, List.getElem?_append_left (by omega)]; exact hc
      have ha := atI_nat hx
      have hm := letA_get hn hc
      have h1 : ((A.length + (nm.length - (k + 1)) : Nat) : Int) < (T.length : Nat) := by omega
      have e1 : ((A.length + (nm.length - (k + 1)) : Nat) : Int) + 1 = ((A.length + (nm.length - k) : Nat) : Int) := by omega
      refine ⟨_, _, .inl ?_, rfl, by omega, false, rfl⟩
      obtain ⟨j, hj⟩ : ∃ j, j = ((A.length + (nm.length - (k + 1)) : Nat) : Int) := ⟨_, rfl⟩
      rw [← hj] at ha h1 e1 ⊢
      rw [← e1]
      simp_arith (disch := simp only [b_name_end_0, h1, ha, hm]) only [b_name_end_0, h1, ha, hm])
    (fun e s ⟨hs, hk, q, he⟩ => by
      subst hs he
      rw [Nat.sub_zero]
      cases B with
      | nil =>
        have h1 : ¬ ((A.length + nm.length : Nat) : Int) < (T.length : Nat) := by
          simp only [List.length_nil] at tl; omega
        obtain ⟨j, hj⟩ : ∃ j, j = ((A.length + nm.length : Nat) : Int) := ⟨_, rfl⟩
        rw [← hj] at h1 ⊢
        simp_arith (disch := simp only [b_name_end_0, h1]) only [b_name_end_0, h1]
      | cons c r =>
        have hc := hB c r rfl
        have hx : T[A.length + nm.length]? = some c := by
          rw [hT, List.getElem?_append_right (by simp), List.length_append, Nat.sub_self]; rfl
        have ha := atI_nat hx
        have h1 : ((A.length + nm.length : Nat) : Int) < (T.length : Nat) := by
          simp only [List.length_cons] at tl; omega
        obtain ⟨j, hj⟩ : ∃ j, j = ((A.length + nm.length : Nat) : Int) := ⟨_, rfl⟩
        rw [← hj] at h1 ha ⊢
        simp_arith (disch := simp only [b_name_end_0, h1, ha, hc]) only [b_name_end_0, h1, ha, hc])
    nm.length whMost (by unfold whMost; omega) (e := [some (l, .str (mkS T)), some (q, .int A.length)]) (s := []) ⟨rfl, Nat.le_refl _, q, by rw [Nat.sub_self, Nat.add_zero]⟩
  obtain ⟨rfl, _, q', rfl⟩ := h2
  refine ⟨q', ?_⟩
  rw [h1, Nat.sub_zero]
theorem cut_mid {A M B : List Nat} : ((A ++ M ++ B).drop A.length).take M.length = M := by
  rw [List.append_assoc, List.drop_left, List.take_left]
theorem end_run (n : Nat) {T A nm B : List Nat} {l q : Bool} (hT : T = A ++ nm ++ B) (hl : T.length ≤ 100000) (hn : nm = [95] ∨ (letA nm = true ∧ nm ≠ [] ∧ ∀ c r, B = c :: r → c ∉ lets)) :
    Y.fnr P (n + 1) i_name_end [(l, .str (mkS T)), (q, .int A.length)] = .ok (.vl false, .int ((A.length + nm.length : Nat) : Int)) := by
  rw [Y.fnr_eq (fi := f_name_end) rfl rfl]
  have t1 : ((A.length : Int) + 1).toNat = A.length + 1 := by omega
  have t2 : A.length + 1 - A.length = 1 := by omega
  rcases hn with hn | ⟨hn, hne, hB⟩
  · subst hn
    have c1 : (T.drop A.length).take 1 = [95] := by rw [hT]; exact cut_mid (M := [95])
    have e1 : ((A.length : Int) + 1) = ((A.length + [95].length : Nat) : Int) := by simp
    rw [← e1]
    simp_arith (disch := simp only [f_name_end, b_name_end, t1, t2, c1]) only [f_name_end, b_name_end, t1, t2, c1]
  · obtain ⟨c, r, e⟩ : ∃ c r, nm = c :: r := by
      cases nm with
      | nil => exact absurd rfl hne
      | cons c r => exact ⟨c, r, rfl⟩
    have c1 : (T.drop A.length).take 1 = [c] := by rw [hT, e, List.append_assoc, List.drop_left]; rfl
    have hc : ¬ c = 95 := fun z => by
      have := letA_get hn (j := 0) (c := c) (by rw [e]; rfl)
      rw [z] at this
      exact absurd this (by decide)
    obtain ⟨q', lp⟩ := end_loop n (x0 := none) (l := l) (q := q) hT hl hn hB
    simp_arith (disch := simp only [f_name_end, b_name_end, t1, t2, c1, hc, lp]) only [f_name_end, b_name_end, t1, t2, c1, hc, lp]
    cases q' <;> rfl
theorem cond_run (n : Nat) {T A B : List Nat} {s : Nat} {v : Int} {l q : Bool} (hT : T = A ++ ([91, s] ++ Y.intL v) ++ [93] ++ B) (hl : T.length ≤ 100000) (hs : s ∈ [60, 62, 61, 33]) (h1 : -(10 ^ 60) < v) (h2 : v < 10 ^ 60) :
    Y.fnr P (n + 2) i_condition_at [(l, .str (mkS T)), (q, .int A.length)] = .ok (.vl false, .tup [.str (mkS [s]), .int v, .int ((A.length + ([91, s] ++ Y.intL v).length + 1 : Nat) : Int)]) := by
  rw [Y.fnr_eq (fi := f_condition_at) rfl rfl]
  have nv : ∀ c ∈ Y.intL v, c = 45 ∨ (48 ≤ c ∧ c ≤ 57) := fun c hc => by
    unfold Y.intL at hc
    split at hc
    · rcases List.mem_cons.mp hc with hc | hc
      · exact .inl hc
      · exact .inr (numL_digits _ c hc)
    · exact .inr (numL_digits _ c hc)
  have hM : 93 ∉ ([91, s] ++ Y.intL v) := fun z => by
    rcases List.mem_append.mp z with z | z
    · rcases List.mem_cons.mp z with z | z
      · cases z
      · have := List.mem_singleton.mp z
        subst this
        exact absurd hs (by decide)
    · have := nv 93 z
      omega
  have ff := find_at (A := A) (M := [91, s] ++ Y.intL v) (B := B) hM
  rw [← hT] at ff
  have rd := read_int n h1 h2 (l := false)
  obtain ⟨L, hL⟩ : ∃ L, L = (Y.intL v).length := ⟨_, rfl⟩
  have ml : ([91, s] ++ Y.intL v).length = 2 + L := by rw [hL]; simp only [List.length_append, List.length_cons, List.length_nil]
  rw [ml] at ff ⊢
  have t1 : ((A.length : Int) + 1).toNat = A.length + 1 := by omega
  have t2 : ((A.length : Int) + 2).toNat = A.length + 2 := by omega
  have t3 : A.length + 2 - (A.length + 1) = 1 := by omega
  have c1 : (T.drop (A.length + 1)).take 1 = [s] := by
    rw [hT, show A ++ ([91, s] ++ Y.intL v) ++ [93] ++ B = (A ++ [91]) ++ [s] ++ (Y.intL v ++ [93] ++ B) by simp, show A.length + 1 = (A ++ [91]).length by simp]
    exact cut_mid (M := [s])
  have t4 : (((A.length + (2 + L) : Nat) : Int)).toNat = A.length + (2 + L) := Int.toNat_natCast _
  have t5 : A.length + (2 + L) - (A.length + 2) = L := by omega
  have c2 : (T.drop (A.length + 2)).take L = Y.intL v := by
    rw [hT, show A ++ ([91, s] ++ Y.intL v) ++ [93] ++ B = (A ++ [91, s]) ++ Y.intL v ++ ([93] ++ B) by simp, show A.length + 2 = (A ++ [91, s]).length by simp, hL]
    exact cut_mid
  have n0 : ¬ ((A.length + (2 + L) : Nat) : Int) < 0 := by omega
  have e1 : ((A.length + (2 + L) : Nat) : Int) + 1 = ((A.length + (2 + L) + 1 : Nat) : Int) := by omega
  rw [← e1]
  obtain ⟨j, hj⟩ : ∃ j, j = ((A.length + (2 + L) : Nat) : Int) := ⟨_, rfl⟩
  rw [← hj] at ff t4 n0 ⊢
  have j0 : 0 ≤ j := by omega
  simp_arith (disch := simp only [f_condition_at, b_condition_at, t1, t2, t3, c1, ff, hs, n0, t4, t5, c2, rd]) only [f_condition_at, b_condition_at, t1, t2, t3, c1, ff, hs, n0, t4, t5, c2, rd]
end L17

namespace L17
open Z Hd PySem L2 TL
local macro_rules
  | `(tactic| simp_arith (disch := simp only [$ds,*]) only [$ls,*]) => `(tactic| simp (disch := first | assumption | omega | ((try simp only [Y.fits_r, Y.fits_v, Y.isCon_lst, Y.isCon_dK, Y.isCon_dT, Y.isCon_obj, Y.isCon_non, Y.isCon_bx, Y.isCon_tup, Y.isCon_bl, Y.isCon_int, Y.isCon_str, Y.isMth_add, Y.isMth_sub, Y.isMth_mul, Y.isMth_fdiv, Y.isMth_mod, Y.isMth_pow, Y.isMth_shl, Y.isMth_shr, Y.isMth_band, Y.isMth_bor, Y.isMth_neg, Y.isMth_notB, Y.isMth_eq, Y.isMth_ne, Y.isMth_lt, Y.isMth_le, Y.isMth_gt, Y.isMth_ge, Y.isMth_isN, Y.isMth_notN, Y.isMth_inn, Y.isMth_nin, Y.isMth_idx, Y.isMth_len, Y.isMth_abs, Y.isMth_int1, Y.isMth_str1, Y.isMth_min2, Y.isMth_max2, Y.isMth_minL, Y.isMth_maxL, Y.isMth_sumL, Y.isMth_anyL, Y.isMth_list1, Y.isMth_tuple1, Y.isMth_sorted1, Y.isMth_dict1, Y.isMth_emK, Y.isMth_emT, Y.isMth_join, Y.isMth_split, Y.isMth_find2, Y.isMth_find1, Y.isMth_index, Y.isMth_count, Y.isMth_get1, Y.isMth_get2, Y.isMth_sl, Y.isMth_isI, Y.isMth_tupD, Y.isMth_lstD, Y.isMth_fld, Y.imm_non, Y.imm_bl, Y.imm_int, Y.imm_str, Y.imm_bx, Y.imm_lst, Y.imm_dK, Y.imm_dT, Y.imm_obj, Y.imm_tup, Y.immL_n, Y.immL_c, Y.nbx_non, Y.nbx_bl, Y.nbx_int, Y.nbx_str, Y.nbx_bx, Y.nbx_lst, Y.nbx_dK, Y.nbx_dT, Y.nbx_obj, Y.nbx_tup, Y.nbxL_n, Y.nbxL_c, Y.nbxL_app, Y.immL_app, Y.nbxL_int, Y.nbxL_str, Y.immL_int, Y.immL_str, Y.tm_append, Y.tm_extend, Y.tm_pop0, Y.tm_pop1, Y.tm_remove, Y.tm_reverse, Y.tm_clear, Y.tm_insert, Y.tm_popd, Y.nbxL_T, Y.immL_T, List.all_cons, List.all_nil, List.length_cons, List.length_nil, List.length_map, List.length_append, Bool.and_true, Bool.true_and, Bool.or_true, Bool.true_or, Bool.or_false, Bool.false_or, Bool.not_false, Bool.not_true, Nat.reduceAdd, Nat.reduceSub, Nat.reduceLeDiff, Nat.reduceLT, Nat.reduceBEq, beq_self_eq_true, decide_true, decide_eq_true_eq, Nat.zero_le, Nat.le_refl, Y.mk_len, Y.isStr_i, Y.isInt_i, Y.isBl_i, $ds,*]); first | done | omega | fail "no")) only [Y.ev_v, Y.ev_vm, Y.ev_k, Y.ev_g, Y.evs_n, Y.evs_c, Y.ev_op, Y.ev_and, Y.ev_or, Y.ev_callP, Y.ev_callI, Y.ev_meth, Y.ev_mut, Y.ev_lc, Y.ev_mk, Y.evIt_seq, Y.evIt_rng, Y.evIt_enu, Y.evIt_rev, Y.tst_and, Y.tst_or, Y.tst_not, Y.tst_b, Y.tst_t, Y.exs_n, Y.exs_c, Y.ex_asg, Y.ex_unp, Y.ex_ex, Y.ex_ret, Y.ex_retN, Y.ex_raise, Y.ex_pass, Y.ex_cont, Y.ex_ite, Y.ex_for, Y.ex_sub, Y.ex_fld, Y.ex_fz, Y.forGo_n, Y.forB1, Y.forB2, Y.forB3, Y.callP_eq, Y.place_bx, Y.isMth_add, Y.isMth_sub, Y.isMth_mul, Y.isMth_fdiv, Y.isMth_mod, Y.isMth_pow, Y.isMth_shl, Y.isMth_shr, Y.isMth_band, Y.isMth_bor, Y.isMth_neg, Y.isMth_notB, Y.isMth_eq, Y.isMth_ne, Y.isMth_lt, Y.isMth_le, Y.isMth_gt, Y.isMth_ge, Y.isMth_isN, Y.isMth_notN, Y.isMth_inn, Y.isMth_nin, Y.isMth_idx, Y.isMth_len, Y.isMth_abs, Y.isMth_int1, Y.isMth_str1, Y.isMth_min2, Y.isMth_max2, Y.isMth_minL, Y.isMth_maxL, Y.isMth_sumL, Y.isMth_anyL, Y.isMth_list1, Y.isMth_tuple1, Y.isMth_sorted1, Y.isMth_dict1, Y.isMth_emK, Y.isMth_emT, Y.isMth_join, Y.isMth_split, Y.isMth_find2, Y.isMth_find1, Y.isMth_index, Y.isMth_count, Y.isMth_get1, Y.isMth_get2, Y.isMth_sl, Y.isMth_isI, Y.isMth_tupD, Y.isMth_lstD, Y.isMth_fld, Y.lk_s, Y.lkm_s, Y.lkb_s, Y.evsC_ok, Y.evsC_ex, Y.evsD_f, Y.evsD_v, Y.evsD_r, Y.evsD_ex, Y.opA_ok, Y.tyH_0, Y.tyH_1, Y.tyH_2, Y.tyH_3, Y.tyH_4, Y.tyH_5, Y.tyH_6, Y.tyH_7, Y.tyH_8, Y.tyH_9, Y.opA_m, Y.opM_t, Y.opA_ex, Y.opC_s, Y.opD_s, Y.derL_n, Y.derL_c, Y.derC_s, Y.der_non, Y.der_bl, Y.der_int, Y.der_str, Y.der_tup, Y.der_lst, Y.der_dK, Y.der_dT, Y.der_obj, Y.der_bx, Y.derB_s, Y.andA_ok, Y.orA_ok, Y.andA_ex, Y.orA_ex, Y.andB_q, Y.orB_q, Y.orM_ok, Y.orM_ex, Y.callA_ok, Y.callA_ex, Y.cpI_t, Y.cpR_ok, Y.cpR_ex, Y.icA_ok, Y.icA_ex, Y.icC_s, Y.icD_v, Y.icD_r, Y.icD_ex, Y.argsI_n, Y.argsI_c, Y.agC_s, Y.argI_v, Y.argI_r, Y.mtA_ok, Y.mtC_s, Y.mtD_s, Y.mtE_p, Y.mtE_i, Y.mtE_ex, Y.muA_ok, Y.muO_s, Y.muB_ok, Y.muB_ex, Y.muC_f, Y.muC_n, Y.muD_s, Y.muE_s, Y.lcA_ok, Y.lcA_ex, Y.lcD_ok, Y.lcF_1, Y.lcF_2, Y.lcB_q, Y.lcE_ok, Y.evC_n, Y.evC_c, Y.ecB_q, Y.lockO_n, Y.lockO_s, Y.mkA_s, Y.mkB_ok, Y.mkB_ex, Y.mkC_s, Y.mkD_t, Y.mkD_f, Y.mkD_ex, Y.tAnd_ok, Y.tOr_ok, Y.tAnd_m, Y.tOr_m, Y.tM_ok, Y.tNot_ok, Y.tB_ok, Y.tB_ex, Y.tT_ok, Y.tT2_s, Y.tB2_s, Y.tru_non, Y.tru_bl, Y.tru_int, Y.tru_lst, Y.tru_tup, Y.kS_nx, Y.kS_ct, Y.kS_ret, Y.kS_ex, Y.asgA_ok, Y.asgA_ex, Y.asgB_s, Y.bindV_v, Y.bindV_r, Y.bindV_b, Y.bindV_bn, Y.isCon_lst, Y.isCon_dK, Y.isCon_dT, Y.isCon_obj, Y.isCon_non, Y.isCon_bx, Y.isCon_tup, Y.isCon_bl, Y.isCon_int, Y.isCon_str, Y.imm_non, Y.imm_bl, Y.imm_int, Y.imm_str, Y.imm_bx, Y.imm_lst, Y.imm_dK, Y.imm_dT, Y.imm_obj, Y.imm_tup, Y.immL_n, Y.immL_c, Y.nbx_non, Y.nbx_bl, Y.nbx_int, Y.nbx_str, Y.nbx_bx, Y.nbx_lst, Y.nbx_dK, Y.nbx_dT, Y.nbx_obj, Y.nbx_tup, Y.nbxL_n, Y.nbxL_c, Y.nbxL_app, Y.immL_app, Y.nbxL_int, Y.nbxL_str, Y.immL_int, Y.immL_str, Y.snapF_nb, Y.argP_nb, Y.lentK_v, Y.lentK_r, Y.lentK_t, Y.argP_bv, Y.agB_s, Y.fits_r, Y.fits_v, Y.settle_v, Y.settle_r, Y.settle_t, Y.stT_s, Y.unpA_ok, Y.unpA_ex, Y.unpB_s, Y.unpTo_2, Y.unp2_s, Y.unpTo_5, Y.unpn_s, Y.exA_ok, Y.exA_ex, Y.retA_v, Y.retA_r, Y.retA_ex, Y.iteA_q, Y.iteA_ex, Y.forA_n, Y.forA_s, Y.unlk_nx, Y.unlk_ret, Y.unlk_ex, Y.lockB_eq, Y.lkB2_s, Y.lockOf_eq, Y.lkO2_s, Y.forK_nx, Y.forK_ct, Y.forK_ret, Y.forK_ex, Y.itS_ok, Y.itS_ex, Y.itE_ok, Y.itV_ok, Y.itS2_l, Y.itS2_t, Y.itE2_l, Y.itV2_l, Y.enuO_s, Y.revO_s, Y.itB_s, Y.items_v, Y.items_r, Y.items_t, Y.itT_s, Y.itR_1, Y.itR_2, Y.itR_ex, Y.sbA_v, Y.sbA_r, Y.sbA_ex, Y.sbB_ok, Y.sbC_ok, Y.sbD_s, Y.sbE_s, Y.fdA_v, Y.fdA_r, Y.fdA_ex, Y.fdB_ok, Y.fdD_s, Y.fzA_b, Y.fzB_s, Y.plA_s, Y.plB_s, Y.pg_n, Y.pg_c, Y.pgO_s, Y.ps_n, Y.ps_c, Y.psO_s, Y.kids_obj, Y.kids_lst, Y.kids_tup, Y.kids_dK, Y.kids_dT, Y.wk_obj, Y.wk_lst, Y.wk_tup, Y.wk_dK, Y.wk_dT, Y.setB_q, Y.sB2_s, Y.fnA_nx, Y.fnA_ret, Y.fnA_ex, Y.rnA_nx, Y.rnA_ret, Y.rnA_ex, Y.outP_v, Y.outP_r, Y.gam_call, Y.gam_cls, Y.norm_vl, Y.norm_fr, Y.mk_inj, Y.mk_one, Y.o_add, Y.o_sub, Y.o_mul, Y.o_fdiv, Y.o_mod, Y.o_pow, Y.o_shl, Y.o_shr, Y.o_band, Y.o_bor, Y.o_neg, Y.o_abs, Y.o_lt, Y.o_le, Y.o_gt, Y.o_ge, Y.o_min2, Y.o_max2, Y.bO_s, Y.bN_s, Y.o_eq, Y.o_ne, Y.eq_i, Y.eq_s, Y.eq_b, Y.o_notB, Y.o_isN, Y.o_notN, Y.o_isI, Y.isn_non, Y.isn_bl, Y.isn_int, Y.isn_str, Y.isn_tup, Y.isn_lst, Y.isT_non, Y.isT_bl, Y.isT_int, Y.isT_str, Y.isT_lst, Y.isT_tup, Y.o_adds, Y.o_lens, Y.o_idxs, Y.sO_s, Y.o_slhs, Y.o_slls, Y.o_sl2s, Y.sIx_p, Y.sIx_n0, Y.cut_hi, Y.cut_lo, Y.cut_2, Y.lsK_s, Y.tpK_s, Y.o_sl1t, Y.o_inn, Y.o_nin, Y.in_signM, Y.tru_s, Y.itS2_m, Y.o_lenl, Y.o_lent, Y.o_lend, Y.kid_eq, Y.kdJ_s, Y.kdD_s, Y.kdK_s, Y.kidK_v, Y.kidK_0, Y.kidK_1, Y.kidK_2, Y.kidK_t, Y.kkT_s, Y.ixN_p, Y.ixN_m, Y.o_idxl, Y.o_idxt, Y.isStr_i, Y.isInt_i, Y.isBl_i, Y.get_str, Y.get_int, Y.get_bl, Y.o_tup, Y.o_lst, Y.o_lst0, Y.o_tup0, Y.o_emK, Y.o_emT, Y.o_fld, Y.fO_s, Y.o_list1, Y.o_list1t, Y.o_list1d, Y.o_tup1, Y.o_addl, Y.adL_s, Y.o_addt, Y.adT_s, Y.mt_append, Y.mt_pop0, Y.poO_s, Y.mt_reverse, Y.mt_clear, Y.mt_extend, Y.tm_append, Y.tm_extend, Y.tm_pop0, Y.tm_pop1, Y.tm_remove, Y.tm_reverse, Y.tm_clear, Y.tm_insert, Y.o_find1, Y.o_find2, Y.o_str1, Y.o_int1, Y.o_int1i, Y.o_int1b, Y.range_0, Y.range_1, Y.range_2, Y.range_3, Y.range_4, Y.range_5, Y.sum_ints, Y.okD_int, Y.okD_bl, Y.okD_non, Y.okL_c, Y.okL_n, Y.okD_tup, Y.okD_lst, Y.get_last, Y.get_lastn, Y.drop_last, Y.whB_eq, Y.whA_q, Y.ex_whl, Y.ex_tr, Y.ex_tr0, Y.trA_nx, Y.trA_ct, Y.trA_ret, Y.trA_ex, Y.tr0A_nx, Y.tr0A_ct, Y.tr0A_ret, Y.subX_s, Y.subX_n, Y.suiteR_nx, Y.suiteR_ct, Y.suiteR_ret, Y.goneX_n, Y.goneX_s, Y.bindX_n, Y.bindX_s, Y.hotG_nx, Y.hotG_cls, Y.hotG_call, Y.gam_nx, Y.ev_isX, Y.ev_callX, Y.xOf_h, Y.xoA_s, Y.isXA_s, Y.cxA_s, Y.cxR_ok, Y.dPos_T, Y.dPos_I, Y.dIn_T, Y.dIn_I, Y.dIn_lT, Y.o_idxT, Y.o_idxI, Y.ioK_s, Y.goK_s, Y.goK_n, Y.o_get1T, Y.o_get1I, Y.o_get2T, Y.stO_s, Y.stO_n, Y.sv_T, Y.sv_I, Y.sv_l, Y.sfO_s, Y.sfO_n, Y.sf_o, Y.ppN_s, Y.ppO_s, Y.mt_popT, Y.mt_popI, Y.rmN_s, Y.mt_removeT, Y.mt_removeI, Y.tm_popd, Y.o_muls, Y.o_srtI, Y.o_srtT, Y.o_srdI, Y.o_srdT, Y.o_dict1, Y.dcO_s, Y.nbxL_T, Y.immL_T, Y.place_tl, Y.place_td, Y.place_to, Y.ev_ch, Y.chA_ok, Y.chB_ok, Y.chC_t, Y.chC_f, Y.chD_ok, Y.snoc_get, Y.snoc_set, Y.app_get, Y.app_set, Y.norm_lst, Y.norm_int, Y.norm_str, Y.norm_bl, Y.norm_non, Y.norm_tup, Y.norm_dK, Y.norm_obj, ite_self, Int.toNat_natCast, true_or, or_true, false_or, or_false, Int.cast_ofNat_Int, Int.natCast_one, Int.ofNat_zero, Int.reduceLT, Int.reduceLE, Int.reduceAdd, Int.reduceSub, Int.reduceEq, Int.reduceNe, Int.reduceNeg, List.cons.injEq, and_true, true_and, and_self, List.take_succ_cons, List.take_zero, List.drop_succ_cons, List.drop_zero, reduceCtorEq, not_true_eq_false, not_false_eq_true, eq_self, and_false, false_and, List.getElem?_cons_zero, List.getElem?_cons_succ, List.set_cons_zero, List.set_cons_succ, List.map_cons, List.map_nil, List.all_cons, List.all_nil, List.length_cons, List.length_nil, List.cons_append, List.nil_append, List.append_nil, List.replicate, Nat.sub_self, Bool.and_true, Bool.true_and, Bool.and_false, Bool.false_and, Bool.or_false, Bool.false_or, Bool.or_true, Bool.true_or, Bool.not_true, Bool.not_false, ite_true, ite_false, Bool.false_eq_true, reduceIte, if_true, if_false, decide_true, decide_false, Nat.reduceAdd, Nat.reduceSub, Nat.reduceLT, Nat.reduceLeDiff, Nat.reduceEqDiff, Int.reduceToNat, List.zip_cons_cons, List.zip_nil_left, List.foldl_cons, List.foldl_nil, Nat.reduceBEq, decide_eq_true_eq, Nat.zero_add, Nat.le_refl, Z.isVl, Nat.succ_eq_add_one, $ls,*])
  | `(tactic| simp_arith (disch := simp only [$ds,*]) only [$ls,*] at $h:ident) => `(tactic| simp (disch := first | assumption | omega | ((try simp only [Y.fits_r, Y.fits_v, Y.isCon_lst, Y.isCon_dK, Y.isCon_dT, Y.isCon_obj, Y.isCon_non, Y.isCon_bx, Y.isCon_tup, Y.isCon_bl, Y.isCon_int, Y.isCon_str, Y.isMth_add, Y.isMth_sub, Y.isMth_mul, Y.isMth_fdiv, Y.isMth_mod, Y.isMth_pow, Y.isMth_shl, Y.isMth_shr, Y.isMth_band, Y.isMth_bor, Y.isMth_neg, Y.isMth_notB, Y.isMth_eq, Y.isMth_ne, Y.isMth_lt, Y.isMth_le, Y.isMth_gt, Y.isMth_ge, Y.isMth_isN, Y.isMth_notN, Y.isMth_inn, Y.isMth_nin, Y.isMth_idx, Y.isMth_len, Y.isMth_abs, Y.isMth_int1, Y.isMth_str1, Y.isMth_min2, Y.isMth_max2, Y.isMth_minL, Y.isMth_maxL, Y.isMth_sumL, Y.isMth_anyL, Y.isMth_list1, Y.isMth_tuple1, Y.isMth_sorted1, Y.isMth_dict1, Y.isMth_emK, Y.isMth_emT, Y.isMth_join, Y.isMth_split, Y.isMth_find2, Y.isMth_find1, Y.isMth_index, Y.isMth_count, Y.isMth_get1, Y.isMth_get2, Y.isMth_sl, Y.isMth_isI, Y.isMth_tupD, Y.isMth_lstD, Y.isMth_fld, Y.imm_non, Y.imm_bl, Y.imm_int, Y.imm_str, Y.imm_bx, Y.imm_lst, Y.imm_dK, Y.imm_dT, Y.imm_obj, Y.imm_tup, Y.immL_n, Y.immL_c, Y.nbx_non, Y.nbx_bl, Y.nbx_int, Y.nbx_str, Y.nbx_bx, Y.nbx_lst, Y.nbx_dK, Y.nbx_dT, Y.nbx_obj, Y.nbx_tup, Y.nbxL_n, Y.nbxL_c, Y.nbxL_app, Y.immL_app, Y.nbxL_int, Y.nbxL_str, Y.immL_int, Y.immL_str, Y.tm_append, Y.tm_extend, Y.tm_pop0, Y.tm_pop1, Y.tm_remove, Y.tm_reverse, Y.tm_clear, Y.tm_insert, Y.tm_popd, Y.nbxL_T, Y.immL_T, List.all_cons, List.all_nil, List.length_cons, List.length_nil, List.length_map, List.length_append, Bool.and_true, Bool.true_and, Bool.or_true, Bool.true_or, Bool.or_false, Bool.false_or, Bool.not_false, Bool.not_true, Nat.reduceAdd, Nat.reduceSub, Nat.reduceLeDiff, Nat.reduceLT, Nat.reduceBEq, beq_self_eq_true, decide_true, decide_eq_true_eq, Nat.zero_le, Nat.le_refl, Y.mk_len, Y.isStr_i, Y.isInt_i, Y.isBl_i, $ds,*]); first | done | omega | fail "no")) only [Y.ev_v, Y.ev_vm, Y.ev_k, Y.ev_g, Y.evs_n, Y.evs_c, Y.ev_op, Y.ev_and, Y.ev_or, Y.ev_callP, Y.ev_callI, Y.ev_meth, Y.ev_mut, Y.ev_lc, Y.ev_mk, Y.evIt_seq, Y.evIt_rng, Y.evIt_enu, Y.evIt_rev, Y.tst_and, Y.tst_or, Y.tst_not, Y.tst_b, Y.tst_t, Y.exs_n, Y.exs_c, Y.ex_asg, Y.ex_unp, Y.ex_ex, Y.ex_ret, Y.ex_retN, Y.ex_raise, Y.ex_pass, Y.ex_cont, Y.ex_ite, Y.ex_for, Y.ex_sub, Y.ex_fld, Y.ex_fz, Y.forGo_n, Y.forB1, Y.forB2, Y.forB3, Y.callP_eq, Y.place_bx, Y.isMth_add, Y.isMth_sub, Y.isMth_mul, Y.isMth_fdiv, Y.isMth_mod, Y.isMth_pow, Y.isMth_shl, Y.isMth_shr, Y.isMth_band, Y.isMth_bor, Y.isMth_neg, Y.isMth_notB, Y.isMth_eq, Y.isMth_ne, Y.isMth_lt, Y.isMth_le, Y.isMth_gt, Y.isMth_ge, Y.isMth_isN, Y.isMth_notN, Y.isMth_inn, Y.isMth_nin, Y.isMth_idx, Y.isMth_len, Y.isMth_abs, Y.isMth_int1, Y.isMth_str1, Y.isMth_min2, Y.isMth_max2, Y.isMth_minL, Y.isMth_maxL, Y.isMth_sumL, Y.isMth_anyL, Y.isMth_list1, Y.isMth_tuple1, Y.isMth_sorted1, Y.isMth_dict1, Y.isMth_emK, Y.isMth_emT, Y.isMth_join, Y.isMth_split, Y.isMth_find2, Y.isMth_find1, Y.isMth_index, Y.isMth_count, Y.isMth_get1, Y.isMth_get2, Y.isMth_sl, Y.isMth_isI, Y.isMth_tupD, Y.isMth_lstD, Y.isMth_fld, Y.lk_s, Y.lkm_s, Y.lkb_s, Y.evsC_ok, Y.evsC_ex, Y.evsD_f, Y.evsD_v, Y.evsD_r, Y.evsD_ex, Y.opA_ok, Y.tyH_0, Y.tyH_1, Y.tyH_2, Y.tyH_3, Y.tyH_4, Y.tyH_5, Y.tyH_6, Y.tyH_7, Y.tyH_8, Y.tyH_9, Y.opA_m, Y.opM_t, Y.opA_ex, Y.opC_s, Y.opD_s, Y.derL_n, Y.derL_c, Y.derC_s, Y.der_non, Y.der_bl, Y.der_int, Y.der_str, Y.der_tup, Y.der_lst, Y.der_dK, Y.der_dT, Y.der_obj, Y.der_bx, Y.derB_s, Y.andA_ok, Y.orA_ok, Y.andA_ex, Y.orA_ex, Y.andB_q, Y.orB_q, Y.orM_ok, Y.orM_ex, Y.callA_ok, Y.callA_ex, Y.cpI_t, Y.cpR_ok, Y.cpR_ex, Y.icA_ok, Y.icA_ex, Y.icC_s, Y.icD_v, Y.icD_r, Y.icD_ex, Y.argsI_n, Y.argsI_c, Y.agC_s, Y.argI_v, Y.argI_r, Y.mtA_ok, Y.mtC_s, Y.mtD_s, Y.mtE_p, Y.mtE_i, Y.mtE_ex, Y.muA_ok, Y.muO_s, Y.muB_ok, Y.muB_ex, Y.muC_f, Y.muC_n, Y.muD_s, Y.muE_s, Y.lcA_ok, Y.lcA_ex, Y.lcD_ok, Y.lcF_1, Y.lcF_2, Y.lcB_q, Y.lcE_ok, Y.evC_n, Y.evC_c, Y.ecB_q, Y.lockO_n, Y.lockO_s, Y.mkA_s, Y.mkB_ok, Y.mkB_ex, Y.mkC_s, Y.mkD_t, Y.mkD_f, Y.mkD_ex, Y.tAnd_ok, Y.tOr_ok, Y.tAnd_m, Y.tOr_m, Y.tM_ok, Y.tNot_ok, Y.tB_ok, Y.tB_ex, Y.tT_ok, Y.tT2_s, Y.tB2_s, Y.tru_non, Y.tru_bl, Y.tru_int, Y.tru_lst, Y.tru_tup, Y.kS_nx, Y.kS_ct, Y.kS_ret, Y.kS_ex, Y.asgA_ok, Y.asgA_ex, Y.asgB_s, Y.bindV_v, Y.bindV_r, Y.bindV_b, Y.bindV_bn, Y.isCon_lst, Y.isCon_dK, Y.isCon_dT, Y.isCon_obj, Y.isCon_non, Y.isCon_bx, Y.isCon_tup, Y.isCon_bl, Y.isCon_int, Y.isCon_str, Y.imm_non, Y.imm_bl, Y.imm_int, Y.imm_str, Y.imm_bx, Y.imm_lst, Y.imm_dK, Y.imm_dT, Y.imm_obj, Y.imm_tup, Y.immL_n, Y.immL_c, Y.nbx_non, Y.nbx_bl, Y.nbx_int, Y.nbx_str, Y.nbx_bx, Y.nbx_lst, Y.nbx_dK, Y.nbx_dT, Y.nbx_obj, Y.nbx_tup, Y.nbxL_n, Y.nbxL_c, Y.nbxL_app, Y.immL_app, Y.nbxL_int, Y.nbxL_str, Y.immL_int, Y.immL_str, Y.snapF_nb, Y.argP_nb, Y.lentK_v, Y.lentK_r, Y.lentK_t, Y.argP_bv, Y.agB_s, Y.fits_r, Y.fits_v, Y.settle_v, Y.settle_r, Y.settle_t, Y.stT_s, Y.unpA_ok, Y.unpA_ex, Y.unpB_s, Y.unpTo_2, Y.unp2_s, Y.unpTo_5, Y.unpn_s, Y.exA_ok, Y.exA_ex, Y.retA_v, Y.retA_r, Y.retA_ex, Y.iteA_q, Y.iteA_ex, Y.forA_n, Y.forA_s, Y.unlk_nx, Y.unlk_ret, Y.unlk_ex, Y.lockB_eq, Y.lkB2_s, Y.lockOf_eq, Y.lkO2_s, Y.forK_nx, Y.forK_ct, Y.forK_ret, Y.forK_ex, Y.itS_ok, Y.itS_ex, Y.itE_ok, Y.itV_ok, Y.itS2_l, Y.itS2_t, Y.itE2_l, Y.itV2_l, Y.enuO_s, Y.revO_s, Y.itB_s, Y.items_v, Y.items_r, Y.items_t, Y.itT_s, Y.itR_1, Y.itR_2, Y.itR_ex, Y.sbA_v, Y.sbA_r, Y.sbA_ex, Y.sbB_ok, Y.sbC_ok, Y.sbD_s, Y.sbE_s, Y.fdA_v, Y.fdA_r, Y.fdA_ex, Y.fdB_ok, Y.fdD_s, Y.fzA_b, Y.fzB_s, Y.plA_s, Y.plB_s, Y.pg_n, Y.pg_c, Y.pgO_s, Y.ps_n, Y.ps_c, Y.psO_s, Y.kids_obj, Y.kids_lst, Y.kids_tup, Y.kids_dK, Y.kids_dT, Y.wk_obj, Y.wk_lst, Y.wk_tup, Y.wk_dK, Y.wk_dT, Y.setB_q, Y.sB2_s, Y.fnA_nx, Y.fnA_ret, Y.fnA_ex, Y.rnA_nx, Y.rnA_ret, Y.rnA_ex, Y.outP_v, Y.outP_r, Y.gam_call, Y.gam_cls, Y.norm_vl, Y.norm_fr, Y.mk_inj, Y.mk_one, Y.o_add, Y.o_sub, Y.o_mul, Y.o_fdiv, Y.o_mod, Y.o_pow, Y.o_shl, Y.o_shr, Y.o_band, Y.o_bor, Y.o_neg, Y.o_abs, Y.o_lt, Y.o_le, Y.o_gt, Y.o_ge, Y.o_min2, Y.o_max2, Y.bO_s, Y.bN_s, Y.o_eq, Y.o_ne, Y.eq_i, Y.eq_s, Y.eq_b, Y.o_notB, Y.o_isN, Y.o_notN, Y.o_isI, Y.isn_non, Y.isn_bl, Y.isn_int, Y.isn_str, Y.isn_tup, Y.isn_lst, Y.isT_non, Y.isT_bl, Y.isT_int, Y.isT_str, Y.isT_lst, Y.isT_tup, Y.o_adds, Y.o_lens, Y.o_idxs, Y.sO_s, Y.o_slhs, Y.o_slls, Y.o_sl2s, Y.sIx_p, Y.sIx_n0, Y.cut_hi, Y.cut_lo, Y.cut_2, Y.lsK_s, Y.tpK_s, Y.o_sl1t, Y.o_inn, Y.o_nin, Y.in_signM, Y.tru_s, Y.itS2_m, Y.o_lenl, Y.o_lent, Y.o_lend, Y.kid_eq, Y.kdJ_s, Y.kdD_s, Y.kdK_s, Y.kidK_v, Y.kidK_0, Y.kidK_1, Y.kidK_2, Y.kidK_t, Y.kkT_s, Y.ixN_p, Y.ixN_m, Y.o_idxl, Y.o_idxt, Y.isStr_i, Y.isInt_i, Y.isBl_i, Y.get_str, Y.get_int, Y.get_bl, Y.o_tup, Y.o_lst, Y.o_lst0, Y.o_tup0, Y.o_emK, Y.o_emT, Y.o_fld, Y.fO_s, Y.o_list1, Y.o_list1t, Y.o_list1d, Y.o_tup1, Y.o_addl, Y.adL_s, Y.o_addt, Y.adT_s, Y.mt_append, Y.mt_pop0, Y.poO_s, Y.mt_reverse, Y.mt_clear, Y.mt_extend, Y.tm_append, Y.tm_extend, Y.tm_pop0, Y.tm_pop1, Y.tm_remove, Y.tm_reverse, Y.tm_clear, Y.tm_insert, Y.o_find1, Y.o_find2, Y.o_str1, Y.o_int1, Y.o_int1i, Y.o_int1b, Y.range_0, Y.range_1, Y.range_2, Y.range_3, Y.range_4, Y.range_5, Y.sum_ints, Y.okD_int, Y.okD_bl, Y.okD_non, Y.okL_c, Y.okL_n, Y.okD_tup, Y.okD_lst, Y.get_last, Y.get_lastn, Y.drop_last, Y.whB_eq, Y.whA_q, Y.ex_whl, Y.ex_tr, Y.ex_tr0, Y.trA_nx, Y.trA_ct, Y.trA_ret, Y.trA_ex, Y.tr0A_nx, Y.tr0A_ct, Y.tr0A_ret, Y.subX_s, Y.subX_n, Y.suiteR_nx, Y.suiteR_ct, Y.suiteR_ret, Y.goneX_n, Y.goneX_s, Y.bindX_n, Y.bindX_s, Y.hotG_nx, Y.hotG_cls, Y.hotG_call, Y.gam_nx, Y.ev_isX, Y.ev_callX, Y.xOf_h, Y.xoA_s, Y.isXA_s, Y.cxA_s, Y.cxR_ok, Y.dPos_T, Y.dPos_I, Y.dIn_T, Y.dIn_I, Y.dIn_lT, Y.o_idxT, Y.o_idxI, Y.ioK_s, Y.goK_s, Y.goK_n, Y.o_get1T, Y.o_get1I, Y.o_get2T, Y.stO_s, Y.stO_n, Y.sv_T, Y.sv_I, Y.sv_l, Y.sfO_s, Y.sfO_n, Y.sf_o, Y.ppN_s, Y.ppO_s, Y.mt_popT, Y.mt_popI, Y.rmN_s, Y.mt_removeT, Y.mt_removeI, Y.tm_popd, Y.o_muls, Y.o_srtI, Y.o_srtT, Y.o_srdI, Y.o_srdT, Y.o_dict1, Y.dcO_s, Y.nbxL_T, Y.immL_T, Y.place_tl, Y.place_td, Y.place_to, Y.ev_ch, Y.chA_ok, Y.chB_ok, Y.chC_t, Y.chC_f, Y.chD_ok, Y.snoc_get, Y.snoc_set, Y.app_get, Y.app_set, Y.norm_lst, Y.norm_int, Y.norm_str, Y.norm_bl, Y.norm_non, Y.norm_tup, Y.norm_dK, Y.norm_obj, ite_self, Int.toNat_natCast, true_or, or_true, false_or, or_false, Int.cast_ofNat_Int, Int.natCast_one, Int.ofNat_zero, Int.reduceLT, Int.reduceLE, Int.reduceAdd, Int.reduceSub, Int.reduceEq, Int.reduceNe, Int.reduceNeg, List.cons.injEq, and_true, true_and, and_self, List.take_succ_cons, List.take_zero, List.drop_succ_cons, List.drop_zero, reduceCtorEq, not_true_eq_false, not_false_eq_true, eq_self, and_false, false_and, List.getElem?_cons_zero, List.getElem?_cons_succ, List.set_cons_zero, List.set_cons_succ, List.map_cons, List.map_nil, List.all_cons, List.all_nil, List.length_cons, List.length_nil, List.cons_append, List.nil_append, List.append_nil, List.replicate, Nat.sub_self, Bool.and_true, Bool.true_and, Bool.and_false, Bool.false_and, Bool.or_false, Bool.false_or, Bool.or_true, Bool.true_or, Bool.not_true, Bool.not_false, ite_true, ite_false, Bool.false_eq_true, reduceIte, if_true, if_false, decide_true, decide_false, Nat.reduceAdd, Nat.reduceSub, Nat.reduceLT, Nat.reduceLeDiff, Nat.reduceEqDiff, Int.reduceToNat, List.zip_cons_cons, List.zip_nil_left, List.foldl_cons, List.foldl_nil, Nat.reduceBEq, decide_eq_true_eq, Nat.zero_add, Nat.le_refl, Z.isVl, Nat.succ_eq_add_one, $ls,*] at $h:ident)
inductive Pc where | sg (c : Nat) | mk (nm : Nm) (b : Bool) (o : Option (Nat × Int))
abbrev tMark : Nm := [109, 97, 114, 107]
def Pc.enc : Pc → D
  | .sg c => .str (mkS [c])
  | .mk nm b none => .tup [.str (mkS tMark), .str (mkS nm), .bl b, .str (mkS []), .int 0]
  | .mk nm b (some (s, v)) => .tup [.str (mkS tMark), .str (mkS nm), .bl b, .str (mkS [s]), .int v]
def bk (b : Bool) : List Nat := if b then [60] else []
def cnd : Option (Nat × Int) → List Nat
  | none => []
  | some (s, v) => ([91, s] ++ Y.intL v) ++ [93]
def Pc.sh : Pc → List Nat
  | .sg c => [c]
  | .mk nm b o => bk b ++ nm ++ cnd o
abbrev sgs : List Nat := [46, 124, 42, 43, 63, 40, 41]
def nmOk (nm : Nm) : Prop := nm = [95] ∨ goodA nm = true
def oOk : Option (Nat × Int) → Prop
  | none => True
  | some (s, v) => s ∈ [60, 62, 61, 33] ∧ -(10 ^ 60) < v ∧ v < 10 ^ 60
def Pc.ok : Pc → Prop
  | .sg c => c ∈ sgs
  | .mk nm _ o => nmOk nm ∧ oOk o
/-- what follows a mark -/
def fol (nm : Nm) (o : Option (Nat × Int)) (B : List Nat) : Prop := o = none → (∀ c r, B = c :: r → c ≠ 91 ∧ (nm ≠ [95] → c ∉ lets))
theorem nm_cons {nm : Nm} (h : nmOk nm) : ∃ c r, nm = c :: r ∧ (c = 95 ∨ c ∈ lets) := by
  rcases h with h | h
  · exact ⟨95, [], h, .inl rfl⟩
  · obtain ⟨h1, _, h3⟩ := goodA_iff.mp h
    cases nm with
    | nil => exact absurd h1 (by decide)
    | cons c r => exact ⟨c, r, rfl, .inr (letA_get h3 (j := 0) rfl)⟩
theorem nm_len {nm : Nm} (h : nmOk nm) : nm.length ≤ 12 := by
  rcases h with h | h
  · rw [h]; decide
  · exact (goodA_iff.mp h).2.1
theorem let_lo {c : Nat} (h : c ∈ lets) : 97 ≤ c ∧ c ≤ 122 := by
  simp only [List.mem_cons, List.not_mem_nil, or_false] at h
  omega
theorem mark_run (n : Nat) {T A B : List Nat} {nm : Nm} {b : Bool} {o : Option (Nat × Int)} {l q : Bool} (hT : T = A ++ (Pc.mk nm b o).sh ++ B) (hl : T.length ≤ 100000) (hn : nmOk nm) (ho : oOk o) (hf : fol nm o B) :
    Y.fnr P (n + 3) i_mark_at [(l, .str (mkS T)), (q, .int A.length)] = .ok (.vl false, .tup [(Pc.mk nm b o).enc, .int ((A.length + (Pc.mk nm b o).sh.length : Nat) : Int)]) := by
  rw [Y.fnr_eq (fi := f_mark_at) rfl rfl]
  obtain ⟨c0, r0, hc0, hcl⟩ := nm_cons hn
  have nl := nm_len hn
  have hT2 : T = (A ++ bk b) ++ nm ++ (cnd o ++ B) := by
    rw [hT]
    show A ++ (bk b ++ nm ++ cnd o) ++ B = _
    simp only [List.append_assoc]
  have hng : nm = [95] ∨ (letA nm = true ∧ nm ≠ [] ∧ ∀ c r, cnd o ++ B = c :: r → c ∉ lets) := by
    rcases hn with h | h
    · exact .inl h
    · by_cases h95 : nm = [95]
      · exact .inl h95
      · refine .inr ⟨(goodA_iff.mp h).2.2, by rw [hc0]; exact List.cons_ne_nil _ _, fun c r e => ?_⟩
        cases o with
        | none => exact (hf rfl c r e).2 h95
        | some p =>
          obtain ⟨s, v⟩ := p
          have : c = 91 := (List.cons.inj (show (91 :: ([s] ++ Y.intL v ++ [93] ++ B) : List Nat) = c :: r by rw [← e]; simp [cnd])).1.symm
          rw [this]; decide
  have gr := good_run (n + 1) (a := nm) (by omega) (l := false)
  have er := end_run (n + 1) (l := false) (q := false) hT2 hl hng
  obtain ⟨a', ha'⟩ : ∃ a', a' = (A ++ bk b).length := ⟨_, rfl⟩
  have hA' : a' = A.length + (if b then 1 else 0) := by
    rw [ha', List.length_append]
    cases b <;> rfl
  rw [← ha'] at er
  obtain ⟨i0, hi0⟩ : ∃ i0 : Int, i0 = (A.length : Int) + (if b then 1 else 0) := ⟨_, rfl⟩
  have ei : (a' : Int) = i0 := by rw [hi0, hA']; cases b <;> rfl
  obtain ⟨e0, he0⟩ : ∃ e0 : Int, e0 = ((a' + nm.length : Nat) : Int) := ⟨_, rfl⟩
  rw [ei, ← he0] at er
  have p0 : 0 ≤ i0 := by omega
  have p1 : 0 ≤ e0 := by omega
  have p2 : 0 ≤ e0 + 1 := by omega
  have c1 : (T.drop i0.toNat).take (e0.toNat - i0.toNat) = nm := by
    rw [show i0.toNat = (A ++ bk b).length by omega, show e0.toNat - (A ++ bk b).length = nm.length by omega, hT2]
    exact cut_mid
  have hx : T[A.length]? = some (if b then 60 else c0) := by
    rw [hT2, List.append_assoc, List.append_assoc, List.getElem?_append_right (Nat.le_refl _), Nat.sub_self, hc0]
    cases b <;> rfl
  have ha := atI_nat hx
  have h95 : nm = [95] ∨ (¬ nm = [95] ∧ goodA nm = true) := by
    by_cases h : nm = [95]
    · exact .inl h
    · exact .inr ⟨h, hn.resolve_left h⟩
  cases o with
  | none =>
    have c2 : ¬ (T.drop e0.toNat).take ((e0 + 1).toNat - e0.toNat) = [91] := by
      rw [show e0.toNat = ((A ++ bk b) ++ nm).length by rw [List.length_append]; omega, show (e0 + 1).toNat - ((A ++ bk b) ++ nm).length = 1 by rw [List.length_append]; omega, hT2, List.drop_left]
      show ¬ B.take 1 = [91]
      cases B with
      | nil => decide
      | cons c r => exact fun z => (hf rfl c r rfl).1 (List.cons.inj z).1
    have el : ((A.length + (Pc.mk nm b none).sh.length : Nat) : Int) = e0 := by
      show ((A.length + (bk b ++ nm ++ cnd none).length : Nat) : Int) = e0
      rw [he0, ha']
      simp only [cnd, List.length_append, List.length_nil]
      omega
    rw [el]
    simp only [Pc.enc]
    cases b with
    | true =>
      rw [if_pos rfl] at ha hi0
      rcases h95 with h | ⟨h, g⟩
      · rw [h] at c1
        rw [h]
        simp_arith (disch := simp only [f_mark_at, b_mark_at, ha, er, p0, p1, p2, c1, c2]) only [f_mark_at, b_mark_at, ha, ← hi0, er, p0, p1, p2, c1, c2]
      · rw [g] at gr
        simp_arith (disch := simp only [f_mark_at, b_mark_at, ha, er, p0, p1, p2, c1, c2, h, gr]) only [f_mark_at, b_mark_at, ha, ← hi0, er, p0, p1, p2, c1, c2, h, gr]
    | false =>
      rw [if_neg (by decide)] at ha hi0
      have h60 : ¬ c0 = 60 := fun z => by
        rcases hcl with q | q
        · omega
        · have := let_lo q; omega
      rcases h95 with h | ⟨h, g⟩
      · rw [h] at c1
        rw [h]
        simp_arith (disch := simp only [f_mark_at, b_mark_at, ha, h60, er, p0, p1, p2, c1, c2]) only [f_mark_at, b_mark_at, ha, h60, ← hi0, er, p0, p1, p2, c1, c2]
      · rw [g] at gr
        simp_arith (disch := simp only [f_mark_at, b_mark_at, ha, h60, er, p0, p1, p2, c1, c2, h, gr]) only [f_mark_at, b_mark_at, ha, h60, ← hi0, er, p0, p1, p2, c1, c2, h, gr]
  | some p =>
    obtain ⟨s, v⟩ := p
    obtain ⟨hs, hv1, hv2⟩ := ho
    have hT3 : T = ((A ++ bk b) ++ nm) ++ ([91, s] ++ Y.intL v) ++ [93] ++ B := by
      rw [hT2]
      simp only [cnd, List.append_assoc]
    have cr := cond_run n (l := false) (q := false) hT3 hl hs hv1 hv2
    rw [show (((A ++ bk b) ++ nm).length : Int) = e0 by rw [List.length_append]; omega] at cr
    have c2 : (T.drop e0.toNat).take ((e0 + 1).toNat - e0.toNat) = [91] := by
      rw [show e0.toNat = ((A ++ bk b) ++ nm).length by rw [List.length_append]; omega, show (e0 + 1).toNat - ((A ++ bk b) ++ nm).length = [91].length by rw [List.length_append]; simp only [List.length_cons, List.length_nil]; omega, show T = ((A ++ bk b) ++ nm) ++ [91] ++ ([s] ++ Y.intL v ++ [93] ++ B) by rw [hT3]; simp]
      exact cut_mid (M := [91])
    have el : ((A.length + (Pc.mk nm b (some (s, v))).sh.length : Nat) : Int) = ((((A ++ bk b) ++ nm).length + ([91, s] ++ Y.intL v).length + 1 : Nat) : Int) := by
      show ((A.length + (bk b ++ nm ++ cnd (some (s, v))).length : Nat) : Int) = _
      simp only [cnd, List.length_append, List.length_cons, List.length_nil]
      omega
    rw [el]
    obtain ⟨z0, hz0⟩ : ∃ z0 : Int, z0 = ((((A ++ bk b) ++ nm).length + ([91, s] ++ Y.intL v).length + 1 : Nat) : Int) := ⟨_, rfl⟩
    rw [← hz0] at cr ⊢
    simp only [Pc.enc]
    cases b with
    | true =>
      rw [if_pos rfl] at ha hi0
      rcases h95 with h | ⟨h, g⟩
      · rw [h] at c1
        rw [h]
        simp_arith (disch := simp only [f_mark_at, b_mark_at, ha, er, p0, p1, p2, c1, c2, cr]) only [f_mark_at, b_mark_at, ha, ← hi0, er, p0, p1, p2, c1, c2, cr]
      · rw [g] at gr
        simp_arith (disch := simp only [f_mark_at, b_mark_at, ha, er, p0, p1, p2, c1, c2, h, gr, cr]) only [f_mark_at, b_mark_at, ha, ← hi0, er, p0, p1, p2, c1, c2, h, gr, cr]
    | false =>
      rw [if_neg (by decide)] at ha hi0
      have h60 : ¬ c0 = 60 := fun z => by
        rcases hcl with q | q
        · omega
        · have := let_lo q; omega
      rcases h95 with h | ⟨h, g⟩
      · rw [h] at c1
        rw [h]
        simp_arith (disch := simp only [f_mark_at, b_mark_at, ha, h60, er, p0, p1, p2, c1, c2, cr]) only [f_mark_at, b_mark_at, ha, h60, ← hi0, er, p0, p1, p2, c1, c2, cr]
      · rw [g] at gr
        simp_arith (disch := simp only [f_mark_at, b_mark_at, ha, h60, er, p0, p1, p2, c1, c2, h, gr, cr]) only [f_mark_at, b_mark_at, ha, h60, ← hi0, er, p0, p1, p2, c1, c2, h, gr, cr]
def shL : List Pc → List Nat
  | [] => []
  | p :: ps => p.sh ++ shL ps
theorem shL_app : ∀ (a b : List Pc), shL (a ++ b) = shL a ++ shL b
  | [], b => rfl
  | p :: a, b => by
    show p.sh ++ shL (a ++ b) = p.sh ++ shL a ++ shL b
    rw [shL_app a b, List.append_assoc]
/-- no name goes on in the next piece -/
def okRow : List Pc → Prop
  | [] => True
  | .sg c :: ps => c ∈ sgs ∧ okRow ps
  | .mk nm b o :: ps => nmOk nm ∧ oOk o ∧ fol nm o (shL ps) ∧ okRow ps
abbrev pCond : Cd := .b (.op .lt [(.v 2 false), (.op .len [(.v 0 false)])])
theorem sh_pos {p : Pc} {ps : List Pc} (h : okRow (p :: ps)) : 0 < p.sh.length := by
  cases p with
  | sg c => exact Nat.zero_lt_one
  | mk nm b o =>
    obtain ⟨c, r, e, _⟩ := nm_cons h.1
    show 0 < (bk b ++ nm ++ cnd o).length
    rw [e]
    simp only [List.length_append, List.length_cons]
    omega
theorem okRow_tail {p : Pc} {ps : List Pc} (h : okRow (p :: ps)) : okRow ps := by
  cases p with
  | sg c => exact h.2
  | mk nm b o => exact h.2.2.2
theorem encP_nt {p : Pc} : p.enc.imm = true := by
  cases p with
  | sg c => rfl
  | mk nm b o => rcases o with _ | ⟨s, v⟩ <;> rfl
theorem pieces_loop (n : Nat) {T : List Nat} {all : List Pc} {l : Bool} (hT : T = shL all) (hl : T.length ≤ 100000) (ha : all.length < 100000) : ∀ (rest done : List Pc), all = done ++ rest → okRow rest → ∀ (fuel : Nat) (q : Bool) (o3 : Option (Bool × D)), rest.length < fuel →
    ∃ q' o3', whGo (Y.whB (gam P (n + 3)) pCond b_pieces_0) fuel [some (l, .str (mkS T)), some (false, .bx 0), some (q, .int (shL done).length), o3] [some ⟨1, false, false, .lst (done.map Pc.enc)⟩] = .nx [some (l, .str (mkS T)), some (false, .bx 0), some (q', .int T.length), o3'] [some ⟨1, false, false, .lst (all.map Pc.enc)⟩]
  | _, _, _, _, 0, _, _, hf => absurd hf (Nat.not_lt_zero _)
  | [], done, e, _, fuel + 1, q, o3, hf => by
    rw [List.append_nil] at e
    subst e
    refine ⟨q, o3, ?_⟩
    rw [hT]
    have h1 : ¬ ((shL all).length : Int) < ((shL all).length : Nat) := by omega
    have hl' : (shL all).length ≤ 100000 := hT ▸ hl
    have hst : Y.whB (gam P (n + 3)) pCond b_pieces_0 [some (l, .str (mkS (shL all))), some (false, .bx 0), some (q, .int (shL all).length), o3] [some ⟨1, false, false, .lst (all.map Pc.enc)⟩] = none := by
      obtain ⟨j, hj⟩ : ∃ j : Int, j = ((shL all).length : Nat) := ⟨_, rfl⟩
      rw [← hj] at h1 ⊢
      simp_arith (disch := simp only [h1]) only [h1, ← hj]
    show (match Y.whB (gam P (n + 3)) pCond b_pieces_0 [some (l, .str (mkS (shL all))), some (false, .bx 0), some (q, .int (shL all).length), o3] [some ⟨1, false, false, .lst (all.map Pc.enc)⟩] with
      | none => Z.SO.nx _ _
      | some (.nx e s) => whGo _ fuel e s
      | some (.ct e s) => whGo _ fuel e s
      | some o => o) = _
    rw [hst]
  | p :: rest, done, e, hr, fuel + 1, q, o3, hf => by
    have hf' : rest.length < fuel := by simpa using hf
    have e2 : all = (done ++ [p]) ++ rest := by rw [e]; simp
    have hT2 : T = shL done ++ p.sh ++ shL rest := by
      rw [hT, e, shL_app]
      show shL done ++ (p.sh ++ shL rest) = _
      rw [List.append_assoc]
    have hsp := sh_pos hr
    have h1 : ((shL done).length : Int) < (T.length : Nat) := by
      rw [hT2]; simp only [List.length_append]; omega
    have hd : done.length < 100000 := by rw [e, List.length_append] at ha; omega
    have hdl : (done.map Pc.enc).length < 100000 := by rw [List.length_map]; exact hd
    have em : (done ++ [p]).map Pc.enc = done.map Pc.enc ++ [p.enc] := by rw [List.map_append]; rfl
    have el : ((shL (done ++ [p])).length : Int) = ((shL done).length : Int) + (p.sh.length : Nat) := by
      rw [shL_app, List.length_append]
      show (((shL done).length + (p.sh ++ []).length : Nat) : Int) = _
      rw [List.append_nil]; omega
    have hgo : ∃ q1 o1, Y.whB (gam P (n + 3)) pCond b_pieces_0 [some (l, .str (mkS T)), some (false, .bx 0), some (q, .int (shL done).length), o3] [some ⟨1, false, false, .lst (done.map Pc.enc)⟩] = some (.nx [some (l, .str (mkS T)), some (false, .bx 0), some (q1, .int (shL (done ++ [p])).length), o1] [some ⟨1, false, false, .lst ((done ++ [p]).map Pc.enc)⟩]) := by
      rw [em, el]
      cases p with
      | sg c =>
        have hx : T[(shL done).length]? = some c := by
          rw [hT2, List.append_assoc, List.getElem?_append_right (Nat.le_refl _), Nat.sub_self]; rfl
        have ha := atI_nat hx
        have hc : c ∈ sgs := hr.1
        refine ⟨false, o3, ?_⟩
        show _ = some (Z.SO.nx [_, _, some (false, .int (((shL done).length : Int) + 1)), _] [some ⟨1, false, false, .lst (done.map Pc.enc ++ [.str (mkS [c])])⟩])
        obtain ⟨j, hj⟩ : ∃ j : Int, j = ((shL done).length : Nat) := ⟨_, rfl⟩
        rw [← hj] at h1 ha ⊢
        simp_arith (disch := simp only [b_pieces_0, h1, ha, hc]) only [b_pieces_0, h1, ha, hc]
      | mk nm b o =>
        obtain ⟨hn, ho, hfo, _⟩ := hr
        obtain ⟨c0, r0, hc0, hcl⟩ := nm_cons hn
        have hx : T[(shL done).length]? = some (if b then 60 else c0) := by
          rw [hT2, List.append_assoc, List.getElem?_append_right (Nat.le_refl _), Nat.sub_self]
          show ((bk b ++ nm ++ cnd o) ++ shL rest)[0]? = _
          rw [hc0]
          cases b <;> rfl
        have ha := atI_nat hx
        have hc : (if b = true then 60 else c0) ∉ sgs := fun z => by
          cases b with
          | true =>
            rw [if_pos rfl] at z
            exact absurd z (by decide)
          | false =>
            rw [if_neg (by decide)] at z
            rcases hcl with q | q
            · rw [q] at z; exact absurd z (by decide)
            · have := let_lo q
              simp only [List.mem_cons, List.not_mem_nil, or_false] at z
              omega
        obtain ⟨x, hx'⟩ : ∃ x, x = (if b = true then 60 else c0) := ⟨_, rfl⟩
        rw [← hx'] at ha hc
        have mr := mark_run n (l := false) (q := false) hT2 hl hn ho hfo
        have mi : (Pc.mk nm b o).enc.imm = true := encP_nt
        obtain ⟨d, hd'⟩ : ∃ d, d = (Pc.mk nm b o).enc := ⟨_, rfl⟩
        have nb : isBx d = false := by rw [hd']; rcases o with _ | ⟨s, v⟩ <;> rfl
        rw [← hd'] at mr mi ⊢
        refine ⟨false, some (false, .tup [d, .int (((shL done).length + (Pc.mk nm b o).sh.length : Nat) : Int)]), ?_⟩
        rw [show ((shL done).length : Int) + ((Pc.mk nm b o).sh.length : Nat) = (((shL done).length + (Pc.mk nm b o).sh.length : Nat) : Int) by omega]
        obtain ⟨z0, hz0⟩ : ∃ z0 : Int, z0 = (((shL done).length + (Pc.mk nm b o).sh.length : Nat) : Int) := ⟨_, rfl⟩
        rw [← hz0] at mr ⊢
        obtain ⟨j, hj⟩ : ∃ j : Int, j = ((shL done).length : Nat) := ⟨_, rfl⟩
        rw [← hj] at h1 ha mr ⊢
        have dd := fun (S : Sto) (k : Kd) => Y.der_of (S := S) (k := k) nb
        have nn := fun (k : Kd) => Y.norm_i (k := k) mi
        simp_arith (disch := simp only [b_pieces_0, h1, ha, hc, mr, mi, dd, nn]) only [b_pieces_0, h1, ha, hc, mr, mi, dd, nn]
    obtain ⟨q1, o1, hgo⟩ := hgo
    obtain ⟨q2, o2, ih⟩ := pieces_loop n hT hl ha rest (done ++ [p]) e2 (okRow_tail hr) fuel q1 o1 hf'
    refine ⟨q2, o2, ?_⟩
    show (match Y.whB (gam P (n + 3)) pCond b_pieces_0 [some (l, .str (mkS T)), some (false, .bx 0), some (q, .int (shL done).length), o3] [some ⟨1, false, false, .lst (done.map Pc.enc)⟩] with
      | none => Z.SO.nx _ _
      | some (.nx e s) => whGo _ fuel e s
      | some (.ct e s) => whGo _ fuel e s
      | some o => o) = _
    rw [hgo]
    exact ih
theorem pieces_run (n : Nat) {all : List Pc} {l : Bool} (hr : okRow all) (hl : (shL all).length ≤ 100000) (ha : all.length < 100000) : Y.fnr P (n + 4) i_pieces [(l, .str (mkS (shL all)))] = .ok (.fr 1 false, .lst (all.map Pc.enc)) := by
  rw [Y.fnr_eq (fi := f_pieces) rfl rfl]
  obtain ⟨q', o3', lp⟩ := pieces_loop n (l := l) rfl hl ha all [] rfl hr whMost false none (by unfold whMost; omega)
  have z0 : ((shL []).length : Int) = 0 := rfl
  rw [z0] at lp
  have nb : noBxL (all.map Pc.enc) = true := Y.nbxL_map fun p => by
    cases p with
    | sg c => rfl
    | mk nm b o => rcases o with _ | ⟨s, v⟩ <;> rfl
  rw [List.map_nil] at lp
  simp_arith (disch := simp only [f_pieces, b_pieces, lp, nb]) only [f_pieces, b_pieces, lp, nb]
end L17

namespace L17
open Z Hd PySem L2 TL
local macro_rules
  | `(tactic| simp_arith (disch := simp only [$ds,*]) only [$ls,*]) => `(tactic| simp (disch := first | assumption | omega | ((try simp only [Y.fits_r, Y.fits_v, Y.isCon_lst, Y.isCon_dK, Y.isCon_dT, Y.isCon_obj, Y.isCon_non, Y.isCon_bx, Y.isCon_tup, Y.isCon_bl, Y.isCon_int, Y.isCon_str, Y.isMth_add, Y.isMth_sub, Y.isMth_mul, Y.isMth_fdiv, Y.isMth_mod, Y.isMth_pow, Y.isMth_shl, Y.isMth_shr, Y.isMth_band, Y.isMth_bor, Y.isMth_neg, Y.isMth_notB, Y.isMth_eq, Y.isMth_ne, Y.isMth_lt, Y.isMth_le, Y.isMth_gt, Y.isMth_ge, Y.isMth_isN, Y.isMth_notN, Y.isMth_inn, Y.isMth_nin, Y.isMth_idx, Y.isMth_len, Y.isMth_abs, Y.isMth_int1, Y.isMth_str1, Y.isMth_min2, Y.isMth_max2, Y.isMth_minL, Y.isMth_maxL, Y.isMth_sumL, Y.isMth_anyL, Y.isMth_list1, Y.isMth_tuple1, Y.isMth_sorted1, Y.isMth_dict1, Y.isMth_emK, Y.isMth_emT, Y.isMth_join, Y.isMth_split, Y.isMth_find2, Y.isMth_find1, Y.isMth_index, Y.isMth_count, Y.isMth_get1, Y.isMth_get2, Y.isMth_sl, Y.isMth_isI, Y.isMth_tupD, Y.isMth_lstD, Y.isMth_fld, Y.imm_non, Y.imm_bl, Y.imm_int, Y.imm_str, Y.imm_bx, Y.imm_lst, Y.imm_dK, Y.imm_dT, Y.imm_obj, Y.imm_tup, Y.immL_n, Y.immL_c, Y.nbx_non, Y.nbx_bl, Y.nbx_int, Y.nbx_str, Y.nbx_bx, Y.nbx_lst, Y.nbx_dK, Y.nbx_dT, Y.nbx_obj, Y.nbx_tup, Y.nbxL_n, Y.nbxL_c, Y.nbxL_app, Y.immL_app, Y.nbxL_int, Y.nbxL_str, Y.immL_int, Y.immL_str, Y.tm_append, Y.tm_extend, Y.tm_pop0, Y.tm_pop1, Y.tm_remove, Y.tm_reverse, Y.tm_clear, Y.tm_insert, Y.tm_popd, Y.nbxL_T, Y.immL_T, List.all_cons, List.all_nil, List.length_cons, List.length_nil, List.length_map, List.length_append, Bool.and_true, Bool.true_and, Bool.or_true, Bool.true_or, Bool.or_false, Bool.false_or, Bool.not_false, Bool.not_true, Nat.reduceAdd, Nat.reduceSub, Nat.reduceLeDiff, Nat.reduceLT, Nat.reduceBEq, beq_self_eq_true, decide_true, decide_eq_true_eq, Nat.zero_le, Nat.le_refl, Y.mk_len, Y.isStr_i, Y.isInt_i, Y.isBl_i, $ds,*]); first | done | omega | fail "no")) only [Y.ev_v, Y.ev_vm, Y.ev_k, Y.ev_g, Y.evs_n, Y.evs_c, Y.ev_op, Y.ev_and, Y.ev_or, Y.ev_callP, Y.ev_callI, Y.ev_meth, Y.ev_mut, Y.ev_lc, Y.ev_mk, Y.evIt_seq, Y.evIt_rng, Y.evIt_enu, Y.evIt_rev, Y.tst_and, Y.tst_or, Y.tst_not, Y.tst_b, Y.tst_t, Y.exs_n, Y.exs_c, Y.ex_asg, Y.ex_unp, Y.ex_ex, Y.ex_ret, Y.ex_retN, Y.ex_raise, Y.ex_pass, Y.ex_cont, Y.ex_ite, Y.ex_for, Y.ex_sub, Y.ex_fld, Y.ex_fz, Y.forGo_n, Y.forB1, Y.forB2, Y.forB3, Y.callP_eq, Y.place_bx, Y.isMth_add, Y.isMth_sub, Y.isMth_mul, Y.isMth_fdiv, Y.isMth_mod, Y.isMth_pow, Y.isMth_shl, Y.isMth_shr, Y.isMth_band, Y.isMth_bor, Y.isMth_neg, Y.isMth_notB, Y.isMth_eq, Y.isMth_ne, Y.isMth_lt, Y.isMth_le, Y.isMth_gt, Y.isMth_ge, Y.isMth_isN, Y.isMth_notN, Y.isMth_inn, Y.isMth_nin, Y.isMth_idx, Y.isMth_len, Y.isMth_abs, Y.isMth_int1, Y.isMth_str1, Y.isMth_min2, Y.isMth_max2, Y.isMth_minL, Y.isMth_maxL, Y.isMth_sumL, Y.isMth_anyL, Y.isMth_list1, Y.isMth_tuple1, Y.isMth_sorted1, Y.isMth_dict1, Y.isMth_emK, Y.isMth_emT, Y.isMth_join, Y.isMth_split, Y.isMth_find2, Y.isMth_find1, Y.isMth_index, Y.isMth_count, Y.isMth_get1, Y.isMth_get2, Y.isMth_sl, Y.isMth_isI, Y.isMth_tupD, Y.isMth_lstD, Y.isMth_fld, Y.lk_s, Y.lkm_s, Y.lkb_s, Y.evsC_ok, Y.evsC_ex, Y.evsD_f, Y.evsD_v, Y.evsD_r, Y.evsD_ex, Y.opA_ok, Y.tyH_0, Y.tyH_1, Y.tyH_2, Y.tyH_3, Y.tyH_4, Y.tyH_5, Y.tyH_6, Y.tyH_7, Y.tyH_8, Y.tyH_9, Y.opA_m, Y.opM_t, Y.opA_ex, Y.opC_s, Y.opD_s, Y.derL_n, Y.derL_c, Y.derC_s, Y.der_non, Y.der_bl, Y.der_int, Y.der_str, Y.der_tup, Y.der_lst, Y.der_dK, Y.der_dT, Y.der_obj, Y.der_bx, Y.derB_s, Y.andA_ok, Y.orA_ok, Y.andA_ex, Y.orA_ex, Y.andB_q, Y.orB_q, Y.orM_ok, Y.orM_ex, Y.callA_ok, Y.callA_ex, Y.cpI_t, Y.cpR_ok, Y.cpR_ex, Y.icA_ok, Y.icA_ex, Y.icC_s, Y.icD_v, Y.icD_r, Y.icD_ex, Y.argsI_n, Y.argsI_c, Y.agC_s, Y.argI_v, Y.argI_r, Y.mtA_ok, Y.mtC_s, Y.mtD_s, Y.mtE_p, Y.mtE_i, Y.mtE_ex, Y.muA_ok, Y.muO_s, Y.muB_ok, Y.muB_ex, Y.muC_f, Y.muC_n, Y.muD_s, Y.muE_s, Y.lcA_ok, Y.lcA_ex, Y.lcD_ok, Y.lcF_1, Y.lcF_2, Y.lcB_q, Y.lcE_ok, Y.evC_n, Y.evC_c, Y.ecB_q, Y.lockO_n, Y.lockO_s, Y.mkA_s, Y.mkB_ok, Y.mkB_ex, Y.mkC_s, Y.mkD_t, Y.mkD_f, Y.mkD_ex, Y.tAnd_ok, Y.tOr_ok, Y.tAnd_m, Y.tOr_m, Y.tM_ok, Y.tNot_ok, Y.tB_ok, Y.tB_ex, Y.tT_ok, Y.tT2_s, Y.tB2_s, Y.tru_non, Y.tru_bl, Y.tru_int, Y.tru_lst, Y.tru_tup, Y.kS_nx, Y.kS_ct, Y.kS_ret, Y.kS_ex, Y.asgA_ok, Y.asgA_ex, Y.asgB_s, Y.bindV_v, Y.bindV_r, Y.bindV_b, Y.bindV_bn, Y.isCon_lst, Y.isCon_dK, Y.isCon_dT, Y.isCon_obj, Y.isCon_non, Y.isCon_bx, Y.isCon_tup, Y.isCon_bl, Y.isCon_int, Y.isCon_str, Y.imm_non, Y.imm_bl, Y.imm_int, Y.imm_str, Y.imm_bx, Y.imm_lst, Y.imm_dK, Y.imm_dT, Y.imm_obj, Y.imm_tup, Y.immL_n, Y.immL_c, Y.nbx_non, Y.nbx_bl, Y.nbx_int, Y.nbx_str, Y.nbx_bx, Y.nbx_lst, Y.nbx_dK, Y.nbx_dT, Y.nbx_obj, Y.nbx_tup, Y.nbxL_n, Y.nbxL_c, Y.nbxL_app, Y.immL_app, Y.nbxL_int, Y.nbxL_str, Y.immL_int, Y.immL_str, Y.snapF_nb, Y.argP_nb, Y.lentK_v, Y.lentK_r, Y.lentK_t, Y.argP_bv, Y.agB_s, Y.fits_r, Y.fits_v, Y.settle_v, Y.settle_r, Y.settle_t, Y.stT_s, Y.unpA_ok, Y.unpA_ex, Y.unpB_s, Y.unpTo_2, Y.unp2_s, Y.unpTo_5, Y.unpn_s, Y.exA_ok, Y.exA_ex, Y.retA_v, Y.retA_r, Y.retA_ex, Y.iteA_q, Y.iteA_ex, Y.forA_n, Y.forA_s, Y.unlk_nx, Y.unlk_ret, Y.unlk_ex, Y.lockB_eq, Y.lkB2_s, Y.lockOf_eq, Y.lkO2_s, Y.forK_nx, Y.forK_ct, Y.forK_ret, Y.forK_ex, Y.itS_ok, Y.itS_ex, Y.itE_ok, Y.itV_ok, Y.itS2_l, Y.itS2_t, Y.itE2_l, Y.itV2_l, Y.enuO_s, Y.revO_s, Y.itB_s, Y.items_v, Y.items_r, Y.items_t, Y.itT_s, Y.itR_1, Y.itR_2, Y.itR_ex, Y.sbA_v, Y.sbA_r, Y.sbA_ex, Y.sbB_ok, Y.sbC_ok, Y.sbD_s, Y.sbE_s, Y.fdA_v, Y.fdA_r, Y.fdA_ex, Y.fdB_ok, Y.fdD_s, Y.fzA_b, Y.fzB_s, Y.plA_s, Y.plB_s, Y.pg_n, Y.pg_c, Y.pgO_s, Y.ps_n, Y.ps_c, Y.psO_s, Y.kids_obj, Y.kids_lst, Y.kids_tup, Y.kids_dK, Y.kids_dT, Y.wk_obj, Y.wk_lst, Y.wk_tup, Y.wk_dK, Y.wk_dT, Y.setB_q, Y.sB2_s, Y.fnA_nx, Y.fnA_ret, Y.fnA_ex, Y.rnA_nx, Y.rnA_ret, Y.rnA_ex, Y.outP_v, Y.outP_r, Y.gam_call, Y.gam_cls, Y.norm_vl, Y.norm_fr, Y.mk_inj, Y.mk_one, Y.o_add, Y.o_sub, Y.o_mul, Y.o_fdiv, Y.o_mod, Y.o_pow, Y.o_shl, Y.o_shr, Y.o_band, Y.o_bor, Y.o_neg, Y.o_abs, Y.o_lt, Y.o_le, Y.o_gt, Y.o_ge, Y.o_min2, Y.o_max2, Y.bO_s, Y.bN_s, Y.o_eq, Y.o_ne, Y.eq_i, Y.eq_s, Y.eq_b, Y.o_notB, Y.o_isN, Y.o_notN, Y.o_isI, Y.isn_non, Y.isn_bl, Y.isn_int, Y.isn_str, Y.isn_tup, Y.isn_lst, Y.isT_non, Y.isT_bl, Y.isT_int, Y.isT_str, Y.isT_lst, Y.isT_tup, Y.o_adds, Y.o_lens, Y.o_idxs, Y.sO_s, Y.o_slhs, Y.o_slls, Y.o_sl2s, Y.sIx_p, Y.sIx_n0, Y.cut_hi, Y.cut_lo, Y.cut_2, Y.lsK_s, Y.tpK_s, Y.o_sl1t, Y.o_inn, Y.o_nin, Y.in_signM, Y.tru_s, Y.itS2_m, Y.o_lenl, Y.o_lent, Y.o_lend, Y.kid_eq, Y.kdJ_s, Y.kdD_s, Y.kdK_s, Y.kidK_v, Y.kidK_0, Y.kidK_1, Y.kidK_2, Y.kidK_t, Y.kkT_s, Y.ixN_p, Y.ixN_m, Y.o_idxl, Y.o_idxt, Y.isStr_i, Y.isInt_i, Y.isBl_i, Y.get_str, Y.get_int, Y.get_bl, Y.o_tup, Y.o_lst, Y.o_lst0, Y.o_tup0, Y.o_emK, Y.o_emT, Y.o_fld, Y.fO_s, Y.o_list1, Y.o_list1t, Y.o_list1d, Y.o_tup1, Y.o_addl, Y.adL_s, Y.o_addt, Y.adT_s, Y.mt_append, Y.mt_pop0, Y.poO_s, Y.mt_reverse, Y.mt_clear, Y.mt_extend, Y.tm_append, Y.tm_extend, Y.tm_pop0, Y.tm_pop1, Y.tm_remove, Y.tm_reverse, Y.tm_clear, Y.tm_insert, Y.o_find1, Y.o_find2, Y.o_str1, Y.o_int1, Y.o_int1i, Y.o_int1b, Y.range_0, Y.range_1, Y.range_2, Y.range_3, Y.range_4, Y.range_5, Y.sum_ints, Y.okD_int, Y.okD_bl, Y.okD_non, Y.okL_c, Y.okL_n, Y.okD_tup, Y.okD_lst, Y.get_last, Y.get_lastn, Y.drop_last, Y.whB_eq, Y.whA_q, Y.ex_whl, Y.ex_tr, Y.ex_tr0, Y.trA_nx, Y.trA_ct, Y.trA_ret, Y.trA_ex, Y.tr0A_nx, Y.tr0A_ct, Y.tr0A_ret, Y.subX_s, Y.subX_n, Y.suiteR_nx, Y.suiteR_ct, Y.suiteR_ret, Y.goneX_n, Y.goneX_s, Y.bindX_n, Y.bindX_s, Y.hotG_nx, Y.hotG_cls, Y.hotG_call, Y.gam_nx, Y.ev_isX, Y.ev_callX, Y.xOf_h, Y.xoA_s, Y.isXA_s, Y.cxA_s, Y.cxR_ok, Y.dPos_T, Y.dPos_I, Y.dIn_T, Y.dIn_I, Y.dIn_lT, Y.o_idxT, Y.o_idxI, Y.ioK_s, Y.goK_s, Y.goK_n, Y.o_get1T, Y.o_get1I, Y.o_get2T, Y.stO_s, Y.stO_n, Y.sv_T, Y.sv_I, Y.sv_l, Y.sfO_s, Y.sfO_n, Y.sf_o, Y.ppN_s, Y.ppO_s, Y.mt_popT, Y.mt_popI, Y.rmN_s, Y.mt_removeT, Y.mt_removeI, Y.tm_popd, Y.o_muls, Y.o_srtI, Y.o_srtT, Y.o_srdI, Y.o_srdT, Y.o_dict1, Y.dcO_s, Y.nbxL_T, Y.immL_T, Y.place_tl, Y.place_td, Y.place_to, Y.ev_ch, Y.chA_ok, Y.chB_ok, Y.chC_t, Y.chC_f, Y.chD_ok, Y.snoc_get, Y.snoc_set, Y.app_get, Y.app_set, Y.norm_lst, Y.norm_int, Y.norm_str, Y.norm_bl, Y.norm_non, Y.norm_tup, Y.norm_dK, Y.norm_obj, ite_self, Int.toNat_natCast, true_or, or_true, false_or, or_false, Int.cast_ofNat_Int, Int.natCast_one, Int.ofNat_zero, Int.reduceLT, Int.reduceLE, Int.reduceAdd, Int.reduceSub, Int.reduceEq, Int.reduceNe, Int.reduceNeg, List.cons.injEq, and_true, true_and, and_self, List.take_succ_cons, List.take_zero, List.drop_succ_cons, List.drop_zero, reduceCtorEq, not_true_eq_false, not_false_eq_true, eq_self, and_false, false_and, List.getElem?_cons_zero, List.getElem?_cons_succ, List.set_cons_zero, List.set_cons_succ, List.map_cons, List.map_nil, List.all_cons, List.all_nil, List.length_cons, List.length_nil, List.cons_append, List.nil_append, List.append_nil, List.replicate, Nat.sub_self, Bool.and_true, Bool.true_and, Bool.and_false, Bool.false_and, Bool.or_false, Bool.false_or, Bool.or_true, Bool.true_or, Bool.not_true, Bool.not_false, ite_true, ite_false, Bool.false_eq_true, reduceIte, if_true, if_false, decide_true, decide_false, Nat.reduceAdd, Nat.reduceSub, Nat.reduceLT, Nat.reduceLeDiff, Nat.reduceEqDiff, Int.reduceToNat, List.zip_cons_cons, List.zip_nil_left, List.foldl_cons, List.foldl_nil, Nat.reduceBEq, decide_eq_true_eq, Nat.zero_add, Nat.le_refl, Z.isVl, Nat.succ_eq_add_one, $ls,*])
  | `(tactic| simp_arith (disch := simp only [$ds,*]) only [$ls,*] at $h:ident) => `(tactic| simp (disch := first | assumption | omega | ((try simp only [Y.fits_r, Y.fits_v, Y.isCon_lst, Y.isCon_dK, Y.isCon_dT, Y.isCon_obj, Y.isCon_non, Y.isCon_bx, Y.isCon_tup, Y.isCon_bl, Y.isCon_int, Y.isCon_str, Y.isMth_add, Y.isMth_sub, Y.isMth_mul, Y.isMth_fdiv, Y.isMth_mod, Y.isMth_pow, Y.isMth_shl, Y.isMth_shr, Y.isMth_band, Y.isMth_bor, Y.isMth_neg, Y.isMth_notB, Y.isMth_eq, Y.isMth_ne, Y.isMth_lt, Y.isMth_le, Y.isMth_gt, Y.isMth_ge, Y.isMth_isN, Y.isMth_notN, Y.isMth_inn, Y.isMth_nin, Y.isMth_idx, Y.isMth_len, Y.isMth_abs, Y.isMth_int1, Y.isMth_str1, Y.isMth_min2, Y.isMth_max2, Y.isMth_minL, Y.isMth_maxL, Y.isMth_sumL, Y.isMth_anyL, Y.isMth_list1, Y.isMth_tuple1, Y.isMth_sorted1, Y.isMth_dict1, Y.isMth_emK, Y.isMth_emT, Y.isMth_join, Y.isMth_split, Y.isMth_find2, Y.isMth_find1, Y.isMth_index, Y.isMth_count, Y.isMth_get1, Y.isMth_get2, Y.isMth_sl, Y.isMth_isI, Y.isMth_tupD, Y.isMth_lstD, Y.isMth_fld, Y.imm_non, Y.imm_bl, Y.imm_int, Y.imm_str, Y.imm_bx, Y.imm_lst, Y.imm_dK, Y.imm_dT, Y.imm_obj, Y.imm_tup, Y.immL_n, Y.immL_c, Y.nbx_non, Y.nbx_bl, Y.nbx_int, Y.nbx_str, Y.nbx_bx, Y.nbx_lst, Y.nbx_dK, Y.nbx_dT, Y.nbx_obj, Y.nbx_tup, Y.nbxL_n, Y.nbxL_c, Y.nbxL_app, Y.immL_app, Y.nbxL_int, Y.nbxL_str, Y.immL_int, Y.immL_str, Y.tm_append, Y.tm_extend, Y.tm_pop0, Y.tm_pop1, Y.tm_remove, Y.tm_reverse, Y.tm_clear, Y.tm_insert, Y.tm_popd, Y.nbxL_T, Y.immL_T, List.all_cons, List.all_nil, List.length_cons, List.length_nil, List.length_map, List.length_append, Bool.and_true, Bool.true_and, Bool.or_true, Bool.true_or, Bool.or_false, Bool.false_or, Bool.not_false, Bool.not_true, Nat.reduceAdd, Nat.reduceSub, Nat.reduceLeDiff, Nat.reduceLT, Nat.reduceBEq, beq_self_eq_true, decide_true, decide_eq_true_eq, Nat.zero_le, Nat.le_refl, Y.mk_len, Y.isStr_i, Y.isInt_i, Y.isBl_i, $ds,*]); first | done | omega | fail "no")) only [Y.ev_v, Y.ev_vm, Y.ev_k, Y.ev_g, Y.evs_n, Y.evs_c, Y.ev_op, Y.ev_and, Y.ev_or, Y.ev_callP, Y.ev_callI, Y.ev_meth, Y.ev_mut, Y.ev_lc, Y.ev_mk, Y.evIt_seq, Y.evIt_rng, Y.evIt_enu, Y.evIt_rev, Y.tst_and, Y.tst_or, Y.tst_not, Y.tst_b, Y.tst_t, Y.exs_n, Y.exs_c, Y.ex_asg, Y.ex_unp, Y.ex_ex, Y.ex_ret, Y.ex_retN, Y.ex_raise, Y.ex_pass, Y.ex_cont, Y.ex_ite, Y.ex_for, Y.ex_sub, Y.ex_fld, Y.ex_fz, Y.forGo_n, Y.forB1, Y.forB2, Y.forB3, Y.callP_eq, Y.place_bx, Y.isMth_add, Y.isMth_sub, Y.isMth_mul, Y.isMth_fdiv, Y.isMth_mod, Y.isMth_pow, Y.isMth_shl, Y.isMth_shr, Y.isMth_band, Y.isMth_bor, Y.isMth_neg, Y.isMth_notB, Y.isMth_eq, Y.isMth_ne, Y.isMth_lt, Y.isMth_le, Y.isMth_gt, Y.isMth_ge, Y.isMth_isN, Y.isMth_notN, Y.isMth_inn, Y.isMth_nin, Y.isMth_idx, Y.isMth_len, Y.isMth_abs, Y.isMth_int1, Y.isMth_str1, Y.isMth_min2, Y.isMth_max2, Y.isMth_minL, Y.isMth_maxL, Y.isMth_sumL, Y.isMth_anyL, Y.isMth_list1, Y.isMth_tuple1, Y.isMth_sorted1, Y.isMth_dict1, Y.isMth_emK, Y.isMth_emT, Y.isMth_join, Y.isMth_split, Y.isMth_find2, Y.isMth_find1, Y.isMth_index, Y.isMth_count, Y.isMth_get1, Y.isMth_get2, Y.isMth_sl, Y.isMth_isI, Y.isMth_tupD, Y.isMth_lstD, Y.isMth_fld, Y.lk_s, Y.lkm_s, Y.lkb_s, Y.evsC_ok, Y.evsC_ex, Y.evsD_f, Y.evsD_v, Y.evsD_r, Y.evsD_ex, Y.opA_ok, Y.tyH_0, Y.tyH_1, Y.tyH_2, Y.tyH_3, Y.tyH_4, Y.tyH_5, Y.tyH_6, Y.tyH_7, Y.tyH_8, Y.tyH_9, Y.opA_m, Y.opM_t, Y.opA_ex, Y.opC_s, Y.opD_s, Y.derL_n, Y.derL_c, Y.derC_s, Y.der_non, Y.der_bl, Y.der_int, Y.der_str, Y.der_tup, Y.der_lst, Y.der_dK, Y.der_dT, Y.der_obj, Y.der_bx, Y.derB_s, Y.andA_ok, Y.orA_ok, Y.andA_ex, Y.orA_ex, Y.andB_q, Y.orB_q, Y.orM_ok, Y.orM_ex, Y.callA_ok, Y.callA_ex, Y.cpI_t, Y.cpR_ok, Y.cpR_ex, Y.icA_ok, Y.icA_ex, Y.icC_s, Y.icD_v, Y.icD_r, Y.icD_ex, Y.argsI_n, Y.argsI_c, Y.agC_s, Y.argI_v, Y.argI_r, Y.mtA_ok, Y.mtC_s, Y.mtD_s, Y.mtE_p, Y.mtE_i, Y.mtE_ex, Y.muA_ok, Y.muO_s, Y.muB_ok, Y.muB_ex, Y.muC_f, Y.muC_n, Y.muD_s, Y.muE_s, Y.lcA_ok, Y.lcA_ex, Y.lcD_ok, Y.lcF_1, Y.lcF_2, Y.lcB_q, Y.lcE_ok, Y.evC_n, Y.evC_c, Y.ecB_q, Y.lockO_n, Y.lockO_s, Y.mkA_s, Y.mkB_ok, Y.mkB_ex, Y.mkC_s, Y.mkD_t, Y.mkD_f, Y.mkD_ex, Y.tAnd_ok, Y.tOr_ok, Y.tAnd_m, Y.tOr_m, Y.tM_ok, Y.tNot_ok, Y.tB_ok, Y.tB_ex, Y.tT_ok, Y.tT2_s, Y.tB2_s, Y.tru_non, Y.tru_bl, Y.tru_int, Y.tru_lst, Y.tru_tup, Y.kS_nx, Y.kS_ct, Y.kS_ret, Y.kS_ex, Y.asgA_ok, Y.asgA_ex, Y.asgB_s, Y.bindV_v, Y.bindV_r, Y.bindV_b, Y.bindV_bn, Y.isCon_lst, Y.isCon_dK, Y.isCon_dT, Y.isCon_obj, Y.isCon_non, Y.isCon_bx, Y.isCon_tup, Y.isCon_bl, Y.isCon_int, Y.isCon_str, Y.imm_non, Y.imm_bl, Y.imm_int, Y.imm_str, Y.imm_bx, Y.imm_lst, Y.imm_dK, Y.imm_dT, Y.imm_obj, Y.imm_tup, Y.immL_n, Y.immL_c, Y.nbx_non, Y.nbx_bl, Y.nbx_int, Y.nbx_str, Y.nbx_bx, Y.nbx_lst, Y.nbx_dK, Y.nbx_dT, Y.nbx_obj, Y.nbx_tup, Y.nbxL_n, Y.nbxL_c, Y.nbxL_app, Y.immL_app, Y.nbxL_int, Y.nbxL_str, Y.immL_int, Y.immL_str, Y.snapF_nb, Y.argP_nb, Y.lentK_v, Y.lentK_r, Y.lentK_t, Y.argP_bv, Y.agB_s, Y.fits_r, Y.fits_v, Y.settle_v, Y.settle_r, Y.settle_t, Y.stT_s, Y.unpA_ok, Y.unpA_ex, Y.unpB_s, Y.unpTo_2, Y.unp2_s, Y.unpTo_5, Y.unpn_s, Y.exA_ok, Y.exA_ex, Y.retA_v, Y.retA_r, Y.retA_ex, Y.iteA_q, Y.iteA_ex, Y.forA_n, Y.forA_s, Y.unlk_nx, Y.unlk_ret, Y.unlk_ex, Y.lockB_eq, Y.lkB2_s, Y.lockOf_eq, Y.lkO2_s, Y.forK_nx, Y.forK_ct, Y.forK_ret, Y.forK_ex, Y.itS_ok, Y.itS_ex, Y.itE_ok, Y.itV_ok, Y.itS2_l, Y.itS2_t, Y.itE2_l, Y.itV2_l, Y.enuO_s, Y.revO_s, Y.itB_s, Y.items_v, Y.items_r, Y.items_t, Y.itT_s, Y.itR_1, Y.itR_2, Y.itR_ex, Y.sbA_v, Y.sbA_r, Y.sbA_ex, Y.sbB_ok, Y.sbC_ok, Y.sbD_s, Y.sbE_s, Y.fdA_v, Y.fdA_r, Y.fdA_ex, Y.fdB_ok, Y.fdD_s, Y.fzA_b, Y.fzB_s, Y.plA_s, Y.plB_s, Y.pg_n, Y.pg_c, Y.pgO_s, Y.ps_n, Y.ps_c, Y.psO_s, Y.kids_obj, Y.kids_lst, Y.kids_tup, Y.kids_dK, Y.kids_dT, Y.wk_obj, Y.wk_lst, Y.wk_tup, Y.wk_dK, Y.wk_dT, Y.setB_q, Y.sB2_s, Y.fnA_nx, Y.fnA_ret, Y.fnA_ex, Y.rnA_nx, Y.rnA_ret, Y.rnA_ex, Y.outP_v, Y.outP_r, Y.gam_call, Y.gam_cls, Y.norm_vl, Y.norm_fr, Y.mk_inj, Y.mk_one, Y.o_add, Y.o_sub, Y.o_mul, Y.o_fdiv, Y.o_mod, Y.o_pow, Y.o_shl, Y.o_shr, Y.o_band, Y.o_bor, Y.o_neg, Y.o_abs, Y.o_lt, Y.o_le, Y.o_gt, Y.o_ge, Y.o_min2, Y.o_max2, Y.bO_s, Y.bN_s, Y.o_eq, Y.o_ne, Y.eq_i, Y.eq_s, Y.eq_b, Y.o_notB, Y.o_isN, Y.o_notN, Y.o_isI, Y.isn_non, Y.isn_bl, Y.isn_int, Y.isn_str, Y.isn_tup, Y.isn_lst, Y.isT_non, Y.isT_bl, Y.isT_int, Y.isT_str, Y.isT_lst, Y.isT_tup, Y.o_adds, Y.o_lens, Y.o_idxs, Y.sO_s, Y.o_slhs, Y.o_slls, Y.o_sl2s, Y.sIx_p, Y.sIx_n0, Y.cut_hi, Y.cut_lo, Y.cut_2, Y.lsK_s, Y.tpK_s, Y.o_sl1t, Y.o_inn, Y.o_nin, Y.in_signM, Y.tru_s, Y.itS2_m, Y.o_lenl, Y.o_lent, Y.o_lend, Y.kid_eq, Y.kdJ_s, Y.kdD_s, Y.kdK_s, Y.kidK_v, Y.kidK_0, Y.kidK_1, Y.kidK_2, Y.kidK_t, Y.kkT_s, Y.ixN_p, Y.ixN_m, Y.o_idxl, Y.o_idxt, Y.isStr_i, Y.isInt_i, Y.isBl_i, Y.get_str, Y.get_int, Y.get_bl, Y.o_tup, Y.o_lst, Y.o_lst0, Y.o_tup0, Y.o_emK, Y.o_emT, Y.o_fld, Y.fO_s, Y.o_list1, Y.o_list1t, Y.o_list1d, Y.o_tup1, Y.o_addl, Y.adL_s, Y.o_addt, Y.adT_s, Y.mt_append, Y.mt_pop0, Y.poO_s, Y.mt_reverse, Y.mt_clear, Y.mt_extend, Y.tm_append, Y.tm_extend, Y.tm_pop0, Y.tm_pop1, Y.tm_remove, Y.tm_reverse, Y.tm_clear, Y.tm_insert, Y.o_find1, Y.o_find2, Y.o_str1, Y.o_int1, Y.o_int1i, Y.o_int1b, Y.range_0, Y.range_1, Y.range_2, Y.range_3, Y.range_4, Y.range_5, Y.sum_ints, Y.okD_int, Y.okD_bl, Y.okD_non, Y.okL_c, Y.okL_n, Y.okD_tup, Y.okD_lst, Y.get_last, Y.get_lastn, Y.drop_last, Y.whB_eq, Y.whA_q, Y.ex_whl, Y.ex_tr, Y.ex_tr0, Y.trA_nx, Y.trA_ct, Y.trA_ret, Y.trA_ex, Y.tr0A_nx, Y.tr0A_ct, Y.tr0A_ret, Y.subX_s, Y.subX_n, Y.suiteR_nx, Y.suiteR_ct, Y.suiteR_ret, Y.goneX_n, Y.goneX_s, Y.bindX_n, Y.bindX_s, Y.hotG_nx, Y.hotG_cls, Y.hotG_call, Y.gam_nx, Y.ev_isX, Y.ev_callX, Y.xOf_h, Y.xoA_s, Y.isXA_s, Y.cxA_s, Y.cxR_ok, Y.dPos_T, Y.dPos_I, Y.dIn_T, Y.dIn_I, Y.dIn_lT, Y.o_idxT, Y.o_idxI, Y.ioK_s, Y.goK_s, Y.goK_n, Y.o_get1T, Y.o_get1I, Y.o_get2T, Y.stO_s, Y.stO_n, Y.sv_T, Y.sv_I, Y.sv_l, Y.sfO_s, Y.sfO_n, Y.sf_o, Y.ppN_s, Y.ppO_s, Y.mt_popT, Y.mt_popI, Y.rmN_s, Y.mt_removeT, Y.mt_removeI, Y.tm_popd, Y.o_muls, Y.o_srtI, Y.o_srtT, Y.o_srdI, Y.o_srdT, Y.o_dict1, Y.dcO_s, Y.nbxL_T, Y.immL_T, Y.place_tl, Y.place_td, Y.place_to, Y.ev_ch, Y.chA_ok, Y.chB_ok, Y.chC_t, Y.chC_f, Y.chD_ok, Y.snoc_get, Y.snoc_set, Y.app_get, Y.app_set, Y.norm_lst, Y.norm_int, Y.norm_str, Y.norm_bl, Y.norm_non, Y.norm_tup, Y.norm_dK, Y.norm_obj, ite_self, Int.toNat_natCast, true_or, or_true, false_or, or_false, Int.cast_ofNat_Int, Int.natCast_one, Int.ofNat_zero, Int.reduceLT, Int.reduceLE, Int.reduceAdd, Int.reduceSub, Int.reduceEq, Int.reduceNe, Int.reduceNeg, List.cons.injEq, and_true, true_and, and_self, List.take_succ_cons, List.take_zero, List.drop_succ_cons, List.drop_zero, reduceCtorEq, not_true_eq_false, not_false_eq_true, eq_self, and_false, false_and, List.getElem?_cons_zero, List.getElem?_cons_succ, List.set_cons_zero, List.set_cons_succ, List.map_cons, List.map_nil, List.all_cons, List.all_nil, List.length_cons, List.length_nil, List.cons_append, List.nil_append, List.append_nil, List.replicate, Nat.sub_self, Bool.and_true, Bool.true_and, Bool.and_false, Bool.false_and, Bool.or_false, Bool.false_or, Bool.or_true, Bool.true_or, Bool.not_true, Bool.not_false, ite_true, ite_false, Bool.false_eq_true, reduceIte, if_true, if_false, decide_true, decide_false, Nat.reduceAdd, Nat.reduceSub, Nat.reduceLT, Nat.reduceLeDiff, Nat.reduceEqDiff, Int.reduceToNat, List.zip_cons_cons, List.zip_nil_left, List.foldl_cons, List.foldl_nil, Nat.reduceBEq, decide_eq_true_eq, Nat.zero_add, Nat.le_refl, Z.isVl, Nat.succ_eq_add_one, $ls,*] at $h:ident)
theorem name_loop (n : Nat) {e0 e2 : Option (Bool × D)} : ∀ (k m : Nat) {num : Int} {t : Nm} {o4 : Option (Bool × D)}, 0 ≤ num → num < 2147483647 → letA t = true → t.length + k ≤ 100 →
    ∃ num' t' o4', letA t' = true ∧ t'.length = t.length + k ∧ forGo ((List.range' m k).map fun (i : Nat) => (false, D.int i)) (Y.forB (gam P n) [4] false b_law_name_by_0) [e0, some (false, .int num), e2, some (false, .str (mkS t)), o4] [] = .nx [e0, some (false, .int num'), e2, some (false, .str (mkS t')), o4'] []
  | 0, m, num, t, o4, _, _, ht, _ => ⟨num, t, o4, ht, rfl, rfl⟩
  | k + 1, m, num, t, o4, h0, h1, ht, hl => by
    have b0 := Int.emod_nonneg (num * 48271 + 11) (show (2147483647 : Int) ≠ 0 by decide)
    have b1 := Int.emod_lt_of_pos (num * 48271 + 11) (show (0 : Int) < 2147483647 by decide)
    obtain ⟨c, hc, hc2⟩ := Y.atI_ex (xs := lets) (p := fun c => decide (c ∈ lets)) (i := (num * 48271 + 11) % 2147483647 / 1000 % 26) (by decide) (by omega) (by show _ < (26 : Int); omega)
    have ht' : letA (t ++ [c]) = true := by
      rw [letA_app, ht, letA_c, hc2]; rfl
    obtain ⟨num', t', o4', g1, g2, g3⟩ := name_loop n (e0 := e0) (e2 := e2) k (m + 1) (num := (num * 48271 + 11) % 2147483647) (t := t ++ [c]) (o4 := some (false, .int m)) b0 b1 ht' (by rw [List.length_append]; show t.length + 1 + k ≤ 100; omega)
    refine ⟨num', t', o4', g1, by rw [g2, List.length_append]; show t.length + 1 + k = _; omega, ?_⟩
    rw [List.range'_succ, List.map_cons, Y.forGo_c, ← g3]
    simp_arith (disch := simp only [b_law_name_by_0, hc]) only [b_law_name_by_0, hc]
theorem nameby_run (n : Nat) (c : Int) {l : Bool} : ∃ a : Nm, goodA a = true ∧ Y.fnr P (n + 1) i_law_name_by [(l, .int c)] = .ok (.vl false, .str (mkS a)) := by
  rw [Y.fnr_eq (fi := f_law_name_by) rfl rfl]
  have b0 := Int.emod_nonneg c (show (2147483647 : Int) ≠ 0 by decide)
  have b1 := Int.emod_lt_of_pos c (show (0 : Int) < 2147483647 by decide)
  by_cases h : c % 2147483647 % 4 = 1
  · obtain ⟨size, hs⟩ : ∃ size : Int, size = 1 + c % 2147483647 / 4 % 12 := ⟨_, rfl⟩
    obtain ⟨num', t', o4', g1, g2, g3⟩ := name_loop n (e0 := some (l, .int c)) (e2 := some (false, .int size)) size.toNat 0 (num := c % 2147483647) (t := []) (o4 := none) b0 b1 rfl (by show 0 + size.toNat ≤ 100; omega)
    rw [← List.range_eq_range'] at g3
    refine ⟨t', goodA_iff.mpr ⟨by rw [g2]; show 1 ≤ 0 + size.toNat; omega, by rw [g2]; show 0 + size.toNat ≤ 12; omega, g1⟩, ?_⟩
    simp_arith (disch := simp only [f_law_name_by, b_law_name_by, h, g3]) only [f_law_name_by, b_law_name_by, h, ← hs, g3]
  · obtain ⟨size, hs⟩ : ∃ size : Int, size = 1 + c % 2147483647 % 3 := ⟨_, rfl⟩
    obtain ⟨num', t', o4', g1, g2, g3⟩ := name_loop n (e0 := some (l, .int c)) (e2 := some (false, .int size)) size.toNat 0 (num := c % 2147483647) (t := []) (o4 := none) b0 b1 rfl (by show 0 + size.toNat ≤ 100; omega)
    rw [← List.range_eq_range'] at g3
    refine ⟨t', goodA_iff.mpr ⟨by rw [g2]; show 1 ≤ 0 + size.toNat; omega, by rw [g2]; show 0 + size.toNat ≤ 12; omega, g1⟩, ?_⟩
    simp_arith (disch := simp only [f_law_name_by, b_law_name_by, h, g3]) only [f_law_name_by, b_law_name_by, h, ← hs, g3]
theorem numby_run (n : Nat) (c : Int) {l : Bool} : ∃ v : Int, -(10 ^ 60) < v ∧ v < 10 ^ 60 ∧ Y.fnr P (n + 1) i_law_number_by [(l, .int c)] = .ok (.vl false, .int v) := by
  rw [Y.fnr_eq (fi := f_law_number_by) rfl rfl]
  have b0 := Int.emod_nonneg (c / 2) (show (10 : Int) ^ 60 ≠ 0 by decide)
  have b1 := Int.emod_lt_of_pos (c / 2) (show (0 : Int) < 10 ^ 60 by decide)
  by_cases h : c / 2 % 7 = 3 <;> by_cases h2 : c % 2 = 1
  · exact ⟨-(10 ^ 60 - 1 - c / 14 % 2), by omega, by omega, by simp_arith (disch := simp only [f_law_number_by, b_law_number_by, h, h2]) only [f_law_number_by, b_law_number_by, h, h2]⟩
  · exact ⟨10 ^ 60 - 1 - c / 14 % 2, by omega, by omega, by simp_arith (disch := simp only [f_law_number_by, b_law_number_by, h, h2]) only [f_law_number_by, b_law_number_by, h, h2]⟩
  · exact ⟨-(c / 2 % 10 ^ 60), by omega, by omega, by simp_arith (disch := simp only [f_law_number_by, b_law_number_by, h, h2]) only [f_law_number_by, b_law_number_by, h, h2]⟩
  · exact ⟨c / 2 % 10 ^ 60, by omega, by omega, by simp_arith (disch := simp only [f_law_number_by, b_law_number_by, h, h2]) only [f_law_number_by, b_law_number_by, h, h2]⟩
theorem markby_run (n : Nat) (c : Int) {l : Bool} : ∃ (nm : Nm) (b : Bool) (o : Option (Nat × Int)), nmOk nm ∧ oOk o ∧ Y.fnr P (n + 2) i_law_mark_by [(l, .int c)] = .ok (.vl false, (Pc.mk nm b o).enc) := by
  rw [Y.fnr_eq (fi := f_law_mark_by) rfl rfl]
  obtain ⟨a, ga, ra⟩ := nameby_run n (c / 60) (l := false)
  obtain ⟨v, v1, v2, rv⟩ := numby_run n (c / 60) (l := false)
  obtain ⟨nm, hnm⟩ : ∃ nm : Nm, nm = if c % 5 = 2 then [95] else a := ⟨_, rfl⟩
  have hn : nmOk nm := by
    rw [hnm]
    split
    · exact .inl rfl
    · exact .inr ga
  have hi : c / 10 % 6 = 0 ∨ c / 10 % 6 = 1 ∨ c / 10 % 6 = 2 ∨ c / 10 % 6 = 3 ∨ c / 10 % 6 = 4 ∨ c / 10 % 6 = 5 := by omega
  by_cases h5 : c % 5 = 2
  · rw [if_pos h5] at hnm
    rw [hnm] at hn
    rcases hi with h | h | h | h | h | h
    · exact ⟨[95], decide (c / 5 % 2 = 1), none, hn, trivial, by simp_arith (disch := simp only [f_law_mark_by, b_law_mark_by, h5, h, ra, rv, Pc.enc]) only [f_law_mark_by, b_law_mark_by, h5, h, ra, rv, Pc.enc]⟩
    · exact ⟨[95], decide (c / 5 % 2 = 1), none, hn, trivial, by simp_arith (disch := simp only [f_law_mark_by, b_law_mark_by, h5, h, ra, rv, Pc.enc]) only [f_law_mark_by, b_law_mark_by, h5, h, ra, rv, Pc.enc]⟩
    · exact ⟨[95], decide (c / 5 % 2 = 1), some (60, v), hn, ⟨by decide, v1, v2⟩, by simp_arith (disch := simp only [f_law_mark_by, b_law_mark_by, h5, h, ra, rv, Pc.enc]) only [f_law_mark_by, b_law_mark_by, h5, h, ra, rv, Pc.enc]⟩
    · exact ⟨[95], decide (c / 5 % 2 = 1), some (62, v), hn, ⟨by decide, v1, v2⟩, by simp_arith (disch := simp only [f_law_mark_by, b_law_mark_by, h5, h, ra, rv, Pc.enc]) only [f_law_mark_by, b_law_mark_by, h5, h, ra, rv, Pc.enc]⟩
    · exact ⟨[95], decide (c / 5 % 2 = 1), some (61, v), hn, ⟨by decide, v1, v2⟩, by simp_arith (disch := simp only [f_law_mark_by, b_law_mark_by, h5, h, ra, rv, Pc.enc]) only [f_law_mark_by, b_law_mark_by, h5, h, ra, rv, Pc.enc]⟩
    · exact ⟨[95], decide (c / 5 % 2 = 1), some (33, v), hn, ⟨by decide, v1, v2⟩, by simp_arith (disch := simp only [f_law_mark_by, b_law_mark_by, h5, h, ra, rv, Pc.enc]) only [f_law_mark_by, b_law_mark_by, h5, h, ra, rv, Pc.enc]⟩
  · rw [if_neg h5] at hnm
    rw [hnm] at hn
    rcases hi with h | h | h | h | h | h
    · exact ⟨a, decide (c / 5 % 2 = 1), none, hn, trivial, by simp_arith (disch := simp only [f_law_mark_by, b_law_mark_by, h5, h, ra, rv, Pc.enc]) only [f_law_mark_by, b_law_mark_by, h5, h, ra, rv, Pc.enc]⟩
    · exact ⟨a, decide (c / 5 % 2 = 1), none, hn, trivial, by simp_arith (disch := simp only [f_law_mark_by, b_law_mark_by, h5, h, ra, rv, Pc.enc]) only [f_law_mark_by, b_law_mark_by, h5, h, ra, rv, Pc.enc]⟩
    · exact ⟨a, decide (c / 5 % 2 = 1), some (60, v), hn, ⟨by decide, v1, v2⟩, by simp_arith (disch := simp only [f_law_mark_by, b_law_mark_by, h5, h, ra, rv, Pc.enc]) only [f_law_mark_by, b_law_mark_by, h5, h, ra, rv, Pc.enc]⟩
    · exact ⟨a, decide (c / 5 % 2 = 1), some (62, v), hn, ⟨by decide, v1, v2⟩, by simp_arith (disch := simp only [f_law_mark_by, b_law_mark_by, h5, h, ra, rv, Pc.enc]) only [f_law_mark_by, b_law_mark_by, h5, h, ra, rv, Pc.enc]⟩
    · exact ⟨a, decide (c / 5 % 2 = 1), some (61, v), hn, ⟨by decide, v1, v2⟩, by simp_arith (disch := simp only [f_law_mark_by, b_law_mark_by, h5, h, ra, rv, Pc.enc]) only [f_law_mark_by, b_law_mark_by, h5, h, ra, rv, Pc.enc]⟩
    · exact ⟨a, decide (c / 5 % 2 = 1), some (33, v), hn, ⟨by decide, v1, v2⟩, by simp_arith (disch := simp only [f_law_mark_by, b_law_mark_by, h5, h, ra, rv, Pc.enc]) only [f_law_mark_by, b_law_mark_by, h5, h, ra, rv, Pc.enc]⟩
def Pc.ok' : Pc → Prop
  | .sg c => c ∈ sgs
  | .mk nm _ o => nmOk nm ∧ oOk o
theorem small_nm {nm : Nm} (h : nmOk nm) : nm.all (· < 0x110000) = true := by
  rcases h with h | h
  · rw [h]; decide
  · exact goodA_small h
theorem enc_self {p : Pc} (h : p.ok') : eqD p.enc p.enc = some true := by
  cases p with
  | sg c =>
    refine Y.eqD_self (Y.okD_mk ?_)
    have : c ∈ sgs := h
    simp only [List.mem_cons, List.not_mem_nil, or_false] at this
    simp only [List.all_cons, List.all_nil, Bool.and_true, decide_eq_true_eq]
    omega
  | mk nm b o =>
    obtain ⟨hn, ho⟩ := h
    have h1 : Y.okD 63 (.str (mkS nm)) = true := Y.okD_mk (small_nm hn)
    have h2 : Y.okD 63 (.str (mkS tMark)) = true := Y.okD_mk (by decide)
    rcases o with _ | ⟨s, v⟩
    · refine Y.eqD_self ?_
      show Y.okD 64 (.tup [.str (mkS tMark), .str (mkS nm), .bl b, .str (mkS []), .int 0]) = true
      rw [Y.okD_tup, Y.okL_c, Y.okL_c, Y.okL_c, Y.okL_c, Y.okL_c, Y.okL_n, h1, h2, Y.okD_bl, Y.okD_mk (by decide), Y.okD_int]; rfl
    · refine Y.eqD_self ?_
      have h3 : Y.okD 63 (.str (mkS [s])) = true := Y.okD_mk (by
        have : s ∈ [60, 62, 61, 33] := ho.1
        simp only [List.mem_cons, List.not_mem_nil, or_false] at this
        simp only [List.all_cons, List.all_nil, Bool.and_true, decide_eq_true_eq]
        omega)
      show Y.okD 64 (.tup [.str (mkS tMark), .str (mkS nm), .bl b, .str (mkS [s]), .int v]) = true
      rw [Y.okD_tup, Y.okL_c, Y.okL_c, Y.okL_c, Y.okL_c, Y.okL_c, Y.okL_n, h1, h2, Y.okD_bl, h3, Y.okD_int]; rfl
theorem alike_run (n : Nat) {nm : Nm} {b : Bool} {o : Option (Nat × Int)} (h : nmOk nm ∧ oOk o) {l l2 : Bool} : Y.fnr P (n + 1) i_law_alike [(l, (Pc.mk nm b o).enc), (l2, (Pc.mk nm b o).enc)] = .ok (.vl false, .bl true) := by
  rw [Y.fnr_eq (fi := f_law_alike) rfl rfl]
  have es := enc_self (p := .mk nm b o) h
  rcases o with _ | ⟨s, v⟩
  · simp only [Pc.enc] at es ⊢
    simp_arith (disch := simp only [f_law_alike, b_law_alike, es]) only [f_law_alike, b_law_alike, es]
  · simp only [Pc.enc] at es ⊢
    simp_arith (disch := simp only [f_law_alike, b_law_alike, es]) only [f_law_alike, b_law_alike, es]
theorem sh_len {p : Pc} (h : p.ok') : p.sh.length ≤ 80 := by
  cases p with
  | sg c => exact Nat.le_of_ble_eq_true rfl
  | mk nm b o =>
    obtain ⟨hn, ho⟩ := h
    have h1 := nm_len hn
    show (bk b ++ nm ++ cnd o).length ≤ 80
    have h2 : (bk b).length ≤ 1 := by cases b <;> decide
    rcases o with _ | ⟨s, v⟩
    · simp only [cnd, List.length_append, List.length_nil]; omega
    · have h3 := intL_len ho.2.1 ho.2.2
      simp only [cnd, List.length_append, List.length_cons, List.length_nil]; omega
theorem shown_run (n : Nat) {p : Pc} (h : p.ok') {l : Bool} : Y.fnr P (n + 1) i_law_shown [(l, p.enc)] = .ok (.vl false, .str (mkS p.sh)) := by
  rw [Y.fnr_eq (fi := f_law_shown) rfl rfl]
  cases p with
  | sg c =>
    simp only [Pc.enc, Pc.sh]
    simp_arith (disch := simp only [f_law_shown, b_law_shown]) only [f_law_shown, b_law_shown]
    cases l <;> rfl
  | mk nm b o =>
    obtain ⟨hn, ho⟩ := h
    have nl := nm_len hn
    rcases o with _ | ⟨s, v⟩
    · have e : (Pc.mk nm b none).sh = bk b ++ nm := by show bk b ++ nm ++ [] = _; rw [List.append_nil]
      rw [e]
      simp only [Pc.enc]
      cases b with
      | true => simp_arith (disch := simp only [f_law_shown, b_law_shown, bk]) only [f_law_shown, b_law_shown, bk]
      | false => simp_arith (disch := simp only [f_law_shown, b_law_shown, bk]) only [f_law_shown, b_law_shown, bk]
    · obtain ⟨_, v1, v2⟩ := ho
      have il := intL_len v1 v2
      cases b with
      | true =>
        have e : (Pc.mk nm true (some (s, v))).sh = ((([60] ++ nm ++ [91]) ++ [s]) ++ Y.intL v) ++ [93] := by show bk true ++ nm ++ (([91, s] ++ Y.intL v) ++ [93]) = _; simp [bk]
        rw [e]
        simp only [Pc.enc]
        simp_arith (disch := simp only [f_law_shown, b_law_shown, List.length_append]) only [f_law_shown, b_law_shown, List.length_append]
      | false =>
        have e : (Pc.mk nm false (some (s, v))).sh = (((nm ++ [91]) ++ [s]) ++ Y.intL v) ++ [93] := by show bk false ++ nm ++ (([91, s] ++ Y.intL v) ++ [93]) = _; simp [bk]
        rw [e]
        simp only [Pc.enc]
        simp_arith (disch := simp only [f_law_shown, b_law_shown, List.length_append]) only [f_law_shown, b_law_shown, List.length_append]
theorem letter_run (n : Nat) (c : Nat) {l : Bool} : Y.fnr P (n + 1) i_law_letter [(l, .str (mkS [c]))] = .ok (.vl false, .bl (decide (c ∈ lets))) := by
  rw [Y.fnr_eq (fi := f_law_letter) rfl rfl]
  simp_arith (disch := simp only [f_law_letter, b_law_letter]) only [f_law_letter, b_law_letter]
end L17

namespace L17
open Z Hd PySem L2 TL
local macro_rules
  | `(tactic| simp_arith (disch := simp only [$ds,*]) only [$ls,*]) => `(tactic| simp (disch := first | assumption | omega | ((try simp only [Y.fits_r, Y.fits_v, Y.isCon_lst, Y.isCon_dK, Y.isCon_dT, Y.isCon_obj, Y.isCon_non, Y.isCon_bx, Y.isCon_tup, Y.isCon_bl, Y.isCon_int, Y.isCon_str, Y.isMth_add, Y.isMth_sub, Y.isMth_mul, Y.isMth_fdiv, Y.isMth_mod, Y.isMth_pow, Y.isMth_shl, Y.isMth_shr, Y.isMth_band, Y.isMth_bor, Y.isMth_neg, Y.isMth_notB, Y.isMth_eq, Y.isMth_ne, Y.isMth_lt, Y.isMth_le, Y.isMth_gt, Y.isMth_ge, Y.isMth_isN, Y.isMth_notN, Y.isMth_inn, Y.isMth_nin, Y.isMth_idx, Y.isMth_len, Y.isMth_abs, Y.isMth_int1, Y.isMth_str1, Y.isMth_min2, Y.isMth_max2, Y.isMth_minL, Y.isMth_maxL, Y.isMth_sumL, Y.isMth_anyL, Y.isMth_list1, Y.isMth_tuple1, Y.isMth_sorted1, Y.isMth_dict1, Y.isMth_emK, Y.isMth_emT, Y.isMth_join, Y.isMth_split, Y.isMth_find2, Y.isMth_find1, Y.isMth_index, Y.isMth_count, Y.isMth_get1, Y.isMth_get2, Y.isMth_sl, Y.isMth_isI, Y.isMth_tupD, Y.isMth_lstD, Y.isMth_fld, Y.imm_non, Y.imm_bl, Y.imm_int, Y.imm_str, Y.imm_bx, Y.imm_lst, Y.imm_dK, Y.imm_dT, Y.imm_obj, Y.imm_tup, Y.immL_n, Y.immL_c, Y.nbx_non, Y.nbx_bl, Y.nbx_int, Y.nbx_str, Y.nbx_bx, Y.nbx_lst, Y.nbx_dK, Y.nbx_dT, Y.nbx_obj, Y.nbx_tup, Y.nbxL_n, Y.nbxL_c, Y.nbxL_app, Y.immL_app, Y.nbxL_int, Y.nbxL_str, Y.immL_int, Y.immL_str, Y.tm_append, Y.tm_extend, Y.tm_pop0, Y.tm_pop1, Y.tm_remove, Y.tm_reverse, Y.tm_clear, Y.tm_insert, Y.tm_popd, Y.nbxL_T, Y.immL_T, List.all_cons, List.all_nil, List.length_cons, List.length_nil, List.length_map, List.length_append, Bool.and_true, Bool.true_and, Bool.or_true, Bool.true_or, Bool.or_false, Bool.false_or, Bool.not_false, Bool.not_true, Nat.reduceAdd, Nat.reduceSub, Nat.reduceLeDiff, Nat.reduceLT, Nat.reduceBEq, beq_self_eq_true, decide_true, decide_eq_true_eq, Nat.zero_le, Nat.le_refl, Y.mk_len, Y.isStr_i, Y.isInt_i, Y.isBl_i, $ds,*]); first | done | omega | fail "no")) only [Y.ev_v, Y.ev_vm, Y.ev_k, Y.ev_g, Y.evs_n, Y.evs_c, Y.ev_op, Y.ev_and, Y.ev_or, Y.ev_callP, Y.ev_callI, Y.ev_meth, Y.ev_mut, Y.ev_lc, Y.ev_mk, Y.evIt_seq, Y.evIt_rng, Y.evIt_enu, Y.evIt_rev, Y.tst_and, Y.tst_or, Y.tst_not, Y.tst_b, Y.tst_t, Y.exs_n, Y.exs_c, Y.ex_asg, Y.ex_unp, Y.ex_ex, Y.ex_ret, Y.ex_retN, Y.ex_raise, Y.ex_pass, Y.ex_cont, Y.ex_ite, Y.ex_for, Y.ex_sub, Y.ex_fld, Y.ex_fz, Y.forGo_n, Y.forB1, Y.forB2, Y.forB3, Y.callP_eq, Y.place_bx, Y.isMth_add, Y.isMth_sub, Y.isMth_mul, Y.isMth_fdiv, Y.isMth_mod, Y.isMth_pow, Y.isMth_shl, Y.isMth_shr, Y.isMth_band, Y.isMth_bor, Y.isMth_neg, Y.isMth_notB, Y.isMth_eq, Y.isMth_ne, Y.isMth_lt, Y.isMth_le, Y.isMth_gt, Y.isMth_ge, Y.isMth_isN, Y.isMth_notN, Y.isMth_inn, Y.isMth_nin, Y.isMth_idx, Y.isMth_len, Y.isMth_abs, Y.isMth_int1, Y.isMth_str1, Y.isMth_min2, Y.isMth_max2, Y.isMth_minL, Y.isMth_maxL, Y.isMth_sumL, Y.isMth_anyL, Y.isMth_list1, Y.isMth_tuple1, Y.isMth_sorted1, Y.isMth_dict1, Y.isMth_emK, Y.isMth_emT, Y.isMth_join, Y.isMth_split, Y.isMth_find2, Y.isMth_find1, Y.isMth_index, Y.isMth_count, Y.isMth_get1, Y.isMth_get2, Y.isMth_sl, Y.isMth_isI, Y.isMth_tupD, Y.isMth_lstD, Y.isMth_fld, Y.lk_s, Y.lkm_s, Y.lkb_s, Y.evsC_ok, Y.evsC_ex, Y.evsD_f, Y.evsD_v, Y.evsD_r, Y.evsD_ex, Y.opA_ok, Y.tyH_0, Y.tyH_1, Y.tyH_2, Y.tyH_3, Y.tyH_4, Y.tyH_5, Y.tyH_6, Y.tyH_7, Y.tyH_8, Y.tyH_9, Y.opA_m, Y.opM_t, Y.opA_ex, Y.opC_s, Y.opD_s, Y.derL_n, Y.derL_c, Y.derC_s, Y.der_non, Y.der_bl, Y.der_int, Y.der_str, Y.der_tup, Y.der_lst, Y.der_dK, Y.der_dT, Y.der_obj, Y.der_bx, Y.derB_s, Y.andA_ok, Y.orA_ok, Y.andA_ex, Y.orA_ex, Y.andB_q, Y.orB_q, Y.orM_ok, Y.orM_ex, Y.callA_ok, Y.callA_ex, Y.cpI_t, Y.cpR_ok, Y.cpR_ex, Y.icA_ok, Y.icA_ex, Y.icC_s, Y.icD_v, Y.icD_r, Y.icD_ex, Y.argsI_n, Y.argsI_c, Y.agC_s, Y.argI_v, Y.argI_r, Y.mtA_ok, Y.mtC_s, Y.mtD_s, Y.mtE_p, Y.mtE_i, Y.mtE_ex, Y.muA_ok, Y.muO_s, Y.muB_ok, Y.muB_ex, Y.muC_f, Y.muC_n, Y.muD_s, Y.muE_s, Y.lcA_ok, Y.lcA_ex, Y.lcD_ok, Y.lcF_1, Y.lcF_2, Y.lcB_q, Y.lcE_ok, Y.evC_n, Y.evC_c, Y.ecB_q, Y.lockO_n, Y.lockO_s, Y.mkA_s, Y.mkB_ok, Y.mkB_ex, Y.mkC_s, Y.mkD_t, Y.mkD_f, Y.mkD_ex, Y.tAnd_ok, Y.tOr_ok, Y.tAnd_m, Y.tOr_m, Y.tM_ok, Y.tNot_ok, Y.tB_ok, Y.tB_ex, Y.tT_ok, Y.tT2_s, Y.tB2_s, Y.tru_non, Y.tru_bl, Y.tru_int, Y.tru_lst, Y.tru_tup, Y.kS_nx, Y.kS_ct, Y.kS_ret, Y.kS_ex, Y.asgA_ok, Y.asgA_ex, Y.asgB_s, Y.bindV_v, Y.bindV_r, Y.bindV_b, Y.bindV_bn, Y.isCon_lst, Y.isCon_dK, Y.isCon_dT, Y.isCon_obj, Y.isCon_non, Y.isCon_bx, Y.isCon_tup, Y.isCon_bl, Y.isCon_int, Y.isCon_str, Y.imm_non, Y.imm_bl, Y.imm_int, Y.imm_str, Y.imm_bx, Y.imm_lst, Y.imm_dK, Y.imm_dT, Y.imm_obj, Y.imm_tup, Y.immL_n, Y.immL_c, Y.nbx_non, Y.nbx_bl, Y.nbx_int, Y.nbx_str, Y.nbx_bx, Y.nbx_lst, Y.nbx_dK, Y.nbx_dT, Y.nbx_obj, Y.nbx_tup, Y.nbxL_n, Y.nbxL_c, Y.nbxL_app, Y.immL_app, Y.nbxL_int, Y.nbxL_str, Y.immL_int, Y.immL_str, Y.snapF_nb, Y.argP_nb, Y.lentK_v, Y.lentK_r, Y.lentK_t, Y.argP_bv, Y.agB_s, Y.fits_r, Y.fits_v, Y.settle_v, Y.settle_r, Y.settle_t, Y.stT_s, Y.unpA_ok, Y.unpA_ex, Y.unpB_s, Y.unpTo_2, Y.unp2_s, Y.unpTo_5, Y.unpn_s, Y.exA_ok, Y.exA_ex, Y.retA_v, Y.retA_r, Y.retA_ex, Y.iteA_q, Y.iteA_ex, Y.forA_n, Y.forA_s, Y.unlk_nx, Y.unlk_ret, Y.unlk_ex, Y.lockB_eq, Y.lkB2_s, Y.lockOf_eq, Y.lkO2_s, Y.forK_nx, Y.forK_ct, Y.forK_ret, Y.forK_ex, Y.itS_ok, Y.itS_ex, Y.itE_ok, Y.itV_ok, Y.itS2_l, Y.itS2_t, Y.itE2_l, Y.itV2_l, Y.enuO_s, Y.revO_s, Y.itB_s, Y.items_v, Y.items_r, Y.items_t, Y.itT_s, Y.itR_1, Y.itR_2, Y.itR_ex, Y.sbA_v, Y.sbA_r, Y.sbA_ex, Y.sbB_ok, Y.sbC_ok, Y.sbD_s, Y.sbE_s, Y.fdA_v, Y.fdA_r, Y.fdA_ex, Y.fdB_ok, Y.fdD_s, Y.fzA_b, Y.fzB_s, Y.plA_s, Y.plB_s, Y.pg_n, Y.pg_c, Y.pgO_s, Y.ps_n, Y.ps_c, Y.psO_s, Y.kids_obj, Y.kids_lst, Y.kids_tup, Y.kids_dK, Y.kids_dT, Y.wk_obj, Y.wk_lst, Y.wk_tup, Y.wk_dK, Y.wk_dT, Y.setB_q, Y.sB2_s, Y.fnA_nx, Y.fnA_ret, Y.fnA_ex, Y.rnA_nx, Y.rnA_ret, Y.rnA_ex, Y.outP_v, Y.outP_r, Y.gam_call, Y.gam_cls, Y.norm_vl, Y.norm_fr, Y.mk_inj, Y.mk_one, Y.o_add, Y.o_sub, Y.o_mul, Y.o_fdiv, Y.o_mod, Y.o_pow, Y.o_shl, Y.o_shr, Y.o_band, Y.o_bor, Y.o_neg, Y.o_abs, Y.o_lt, Y.o_le, Y.o_gt, Y.o_ge, Y.o_min2, Y.o_max2, Y.bO_s, Y.bN_s, Y.o_eq, Y.o_ne, Y.eq_i, Y.eq_s, Y.eq_b, Y.o_notB, Y.o_isN, Y.o_notN, Y.o_isI, Y.isn_non, Y.isn_bl, Y.isn_int, Y.isn_str, Y.isn_tup, Y.isn_lst, Y.isT_non, Y.isT_bl, Y.isT_int, Y.isT_str, Y.isT_lst, Y.isT_tup, Y.o_adds, Y.o_lens, Y.o_idxs, Y.sO_s, Y.o_slhs, Y.o_slls, Y.o_sl2s, Y.sIx_p, Y.sIx_n0, Y.cut_hi, Y.cut_lo, Y.cut_2, Y.lsK_s, Y.tpK_s, Y.o_sl1t, Y.o_inn, Y.o_nin, Y.in_signM, Y.tru_s, Y.itS2_m, Y.o_lenl, Y.o_lent, Y.o_lend, Y.kid_eq, Y.kdJ_s, Y.kdD_s, Y.kdK_s, Y.kidK_v, Y.kidK_0, Y.kidK_1, Y.kidK_2, Y.kidK_t, Y.kkT_s, Y.ixN_p, Y.ixN_m, Y.o_idxl, Y.o_idxt, Y.isStr_i, Y.isInt_i, Y.isBl_i, Y.get_str, Y.get_int, Y.get_bl, Y.o_tup, Y.o_lst, Y.o_lst0, Y.o_tup0, Y.o_emK, Y.o_emT, Y.o_fld, Y.fO_s, Y.o_list1, Y.o_list1t, Y.o_list1d, Y.o_tup1, Y.o_addl, Y.adL_s, Y.o_addt, Y.adT_s, Y.mt_append, Y.mt_pop0, Y.poO_s, Y.mt_reverse, Y.mt_clear, Y.mt_extend, Y.tm_append, Y.tm_extend, Y.tm_pop0, Y.tm_pop1, Y.tm_remove, Y.tm_reverse, Y.tm_clear, Y.tm_insert, Y.o_find1, Y.o_find2, Y.o_str1, Y.o_int1, Y.o_int1i, Y.o_int1b, Y.range_0, Y.range_1, Y.range_2, Y.range_3, Y.range_4, Y.range_5, Y.sum_ints, Y.okD_int, Y.okD_bl, Y.okD_non, Y.okL_c, Y.okL_n, Y.okD_tup, Y.okD_lst, Y.get_last, Y.get_lastn, Y.drop_last, Y.whB_eq, Y.whA_q, Y.ex_whl, Y.ex_tr, Y.ex_tr0, Y.trA_nx, Y.trA_ct, Y.trA_ret, Y.trA_ex, Y.tr0A_nx, Y.tr0A_ct, Y.tr0A_ret, Y.subX_s, Y.subX_n, Y.suiteR_nx, Y.suiteR_ct, Y.suiteR_ret, Y.goneX_n, Y.goneX_s, Y.bindX_n, Y.bindX_s, Y.hotG_nx, Y.hotG_cls, Y.hotG_call, Y.gam_nx, Y.ev_isX, Y.ev_callX, Y.xOf_h, Y.xoA_s, Y.isXA_s, Y.cxA_s, Y.cxR_ok, Y.dPos_T, Y.dPos_I, Y.dIn_T, Y.dIn_I, Y.dIn_lT, Y.o_idxT, Y.o_idxI, Y.ioK_s, Y.goK_s, Y.goK_n, Y.o_get1T, Y.o_get1I, Y.o_get2T, Y.stO_s, Y.stO_n, Y.sv_T, Y.sv_I, Y.sv_l, Y.sfO_s, Y.sfO_n, Y.sf_o, Y.ppN_s, Y.ppO_s, Y.mt_popT, Y.mt_popI, Y.rmN_s, Y.mt_removeT, Y.mt_removeI, Y.tm_popd, Y.o_muls, Y.o_srtI, Y.o_srtT, Y.o_srdI, Y.o_srdT, Y.o_dict1, Y.dcO_s, Y.nbxL_T, Y.immL_T, Y.place_tl, Y.place_td, Y.place_to, Y.ev_ch, Y.chA_ok, Y.chB_ok, Y.chC_t, Y.chC_f, Y.chD_ok, Y.snoc_get, Y.snoc_set, Y.app_get, Y.app_set, Y.norm_lst, Y.norm_int, Y.norm_str, Y.norm_bl, Y.norm_non, Y.norm_tup, Y.norm_dK, Y.norm_obj, ite_self, Int.toNat_natCast, true_or, or_true, false_or, or_false, Int.cast_ofNat_Int, Int.natCast_one, Int.ofNat_zero, Int.reduceLT, Int.reduceLE, Int.reduceAdd, Int.reduceSub, Int.reduceEq, Int.reduceNe, Int.reduceNeg, List.cons.injEq, and_true, true_and, and_self, List.take_succ_cons, List.take_zero, List.drop_succ_cons, List.drop_zero, reduceCtorEq, not_true_eq_false, not_false_eq_true, eq_self, and_false, false_and, List.getElem?_cons_zero, List.getElem?_cons_succ, List.set_cons_zero, List.set_cons_succ, List.map_cons, List.map_nil, List.all_cons, List.all_nil, List.length_cons, List.length_nil, List.cons_append, List.nil_append, List.append_nil, List.replicate, Nat.sub_self, Bool.and_true, Bool.true_and, Bool.and_false, Bool.false_and, Bool.or_false, Bool.false_or, Bool.or_true, Bool.true_or, Bool.not_true, Bool.not_false, ite_true, ite_false, Bool.false_eq_true, reduceIte, if_true, if_false, decide_true, decide_false, Nat.reduceAdd, Nat.reduceSub, Nat.reduceLT, Nat.reduceLeDiff, Nat.reduceEqDiff, Int.reduceToNat, List.zip_cons_cons, List.zip_nil_left, List.foldl_cons, List.foldl_nil, Nat.reduceBEq, decide_eq_true_eq, Nat.zero_add, Nat.le_refl, Z.isVl, Nat.succ_eq_add_one, $ls,*])
  | `(tactic| simp_arith (disch := simp only [$ds,*]) only [$ls,*] at $h:ident) => `(tactic| simp (disch := first | assumption | omega | ((try simp only [Y.fits_r, Y.fits_v, Y.isCon_lst, Y.isCon_dK, Y.isCon_dT, Y.isCon_obj, Y.isCon_non, Y.isCon_bx, Y.isCon_tup, Y.isCon_bl, Y.isCon_int, Y.isCon_str, Y.isMth_add, Y.isMth_sub, Y.isMth_mul, Y.isMth_fdiv, Y.isMth_mod, Y.isMth_pow, Y.isMth_shl, Y.isMth_shr, Y.isMth_band, Y.isMth_bor, Y.isMth_neg, Y.isMth_notB, Y.isMth_eq, Y.isMth_ne, Y.isMth_lt, Y.isMth_le, Y.isMth_gt, Y.isMth_ge, Y.isMth_isN, Y.isMth_notN, Y.isMth_inn, Y.isMth_nin, Y.isMth_idx, Y.isMth_len, Y.isMth_abs, Y.isMth_int1, Y.isMth_str1, Y.isMth_min2, Y.isMth_max2, Y.isMth_minL, Y.isMth_maxL, Y.isMth_sumL, Y.isMth_anyL, Y.isMth_list1, Y.isMth_tuple1, Y.isMth_sorted1, Y.isMth_dict1, Y.isMth_emK, Y.isMth_emT, Y.isMth_join, Y.isMth_split, Y.isMth_find2, Y.isMth_find1, Y.isMth_index, Y.isMth_count, Y.isMth_get1, Y.isMth_get2, Y.isMth_sl, Y.isMth_isI, Y.isMth_tupD, Y.isMth_lstD, Y.isMth_fld, Y.imm_non, Y.imm_bl, Y.imm_int, Y.imm_str, Y.imm_bx, Y.imm_lst, Y.imm_dK, Y.imm_dT, Y.imm_obj, Y.imm_tup, Y.immL_n, Y.immL_c, Y.nbx_non, Y.nbx_bl, Y.nbx_int, Y.nbx_str, Y.nbx_bx, Y.nbx_lst, Y.nbx_dK, Y.nbx_dT, Y.nbx_obj, Y.nbx_tup, Y.nbxL_n, Y.nbxL_c, Y.nbxL_app, Y.immL_app, Y.nbxL_int, Y.nbxL_str, Y.immL_int, Y.immL_str, Y.tm_append, Y.tm_extend, Y.tm_pop0, Y.tm_pop1, Y.tm_remove, Y.tm_reverse, Y.tm_clear, Y.tm_insert, Y.tm_popd, Y.nbxL_T, Y.immL_T, List.all_cons, List.all_nil, List.length_cons, List.length_nil, List.length_map, List.length_append, Bool.and_true, Bool.true_and, Bool.or_true, Bool.true_or, Bool.or_false, Bool.false_or, Bool.not_false, Bool.not_true, Nat.reduceAdd, Nat.reduceSub, Nat.reduceLeDiff, Nat.reduceLT, Nat.reduceBEq, beq_self_eq_true, decide_true, decide_eq_true_eq, Nat.zero_le, Nat.le_refl, Y.mk_len, Y.isStr_i, Y.isInt_i, Y.isBl_i, $ds,*]); first | done | omega | fail "no")) only [Y.ev_v, Y.ev_vm, Y.ev_k, Y.ev_g, Y.evs_n, Y.evs_c, Y.ev_op, Y.ev_and, Y.ev_or, Y.ev_callP, Y.ev_callI, Y.ev_meth, Y.ev_mut, Y.ev_lc, Y.ev_mk, Y.evIt_seq, Y.evIt_rng, Y.evIt_enu, Y.evIt_rev, Y.tst_and, Y.tst_or, Y.tst_not, Y.tst_b, Y.tst_t, Y.exs_n, Y.exs_c, Y.ex_asg, Y.ex_unp, Y.ex_ex, Y.ex_ret, Y.ex_retN, Y.ex_raise, Y.ex_pass, Y.ex_cont, Y.ex_ite, Y.ex_for, Y.ex_sub, Y.ex_fld, Y.ex_fz, Y.forGo_n, Y.forB1, Y.forB2, Y.forB3, Y.callP_eq, Y.place_bx, Y.isMth_add, Y.isMth_sub, Y.isMth_mul, Y.isMth_fdiv, Y.isMth_mod, Y.isMth_pow, Y.isMth_shl, Y.isMth_shr, Y.isMth_band, Y.isMth_bor, Y.isMth_neg, Y.isMth_notB, Y.isMth_eq, Y.isMth_ne, Y.isMth_lt, Y.isMth_le, Y.isMth_gt, Y.isMth_ge, Y.isMth_isN, Y.isMth_notN, Y.isMth_inn, Y.isMth_nin, Y.isMth_idx, Y.isMth_len, Y.isMth_abs, Y.isMth_int1, Y.isMth_str1, Y.isMth_min2, Y.isMth_max2, Y.isMth_minL, Y.isMth_maxL, Y.isMth_sumL, Y.isMth_anyL, Y.isMth_list1, Y.isMth_tuple1, Y.isMth_sorted1, Y.isMth_dict1, Y.isMth_emK, Y.isMth_emT, Y.isMth_join, Y.isMth_split, Y.isMth_find2, Y.isMth_find1, Y.isMth_index, Y.isMth_count, Y.isMth_get1, Y.isMth_get2, Y.isMth_sl, Y.isMth_isI, Y.isMth_tupD, Y.isMth_lstD, Y.isMth_fld, Y.lk_s, Y.lkm_s, Y.lkb_s, Y.evsC_ok, Y.evsC_ex, Y.evsD_f, Y.evsD_v, Y.evsD_r, Y.evsD_ex, Y.opA_ok, Y.tyH_0, Y.tyH_1, Y.tyH_2, Y.tyH_3, Y.tyH_4, Y.tyH_5, Y.tyH_6, Y.tyH_7, Y.tyH_8, Y.tyH_9, Y.opA_m, Y.opM_t, Y.opA_ex, Y.opC_s, Y.opD_s, Y.derL_n, Y.derL_c, Y.derC_s, Y.der_non, Y.der_bl, Y.der_int, Y.der_str, Y.der_tup, Y.der_lst, Y.der_dK, Y.der_dT, Y.der_obj, Y.der_bx, Y.derB_s, Y.andA_ok, Y.orA_ok, Y.andA_ex, Y.orA_ex, Y.andB_q, Y.orB_q, Y.orM_ok, Y.orM_ex, Y.callA_ok, Y.callA_ex, Y.cpI_t, Y.cpR_ok, Y.cpR_ex, Y.icA_ok, Y.icA_ex, Y.icC_s, Y.icD_v, Y.icD_r, Y.icD_ex, Y.argsI_n, Y.argsI_c, Y.agC_s, Y.argI_v, Y.argI_r, Y.mtA_ok, Y.mtC_s, Y.mtD_s, Y.mtE_p, Y.mtE_i, Y.mtE_ex, Y.muA_ok, Y.muO_s, Y.muB_ok, Y.muB_ex, Y.muC_f, Y.muC_n, Y.muD_s, Y.muE_s, Y.lcA_ok, Y.lcA_ex, Y.lcD_ok, Y.lcF_1, Y.lcF_2, Y.lcB_q, Y.lcE_ok, Y.evC_n, Y.evC_c, Y.ecB_q, Y.lockO_n, Y.lockO_s, Y.mkA_s, Y.mkB_ok, Y.mkB_ex, Y.mkC_s, Y.mkD_t, Y.mkD_f, Y.mkD_ex, Y.tAnd_ok, Y.tOr_ok, Y.tAnd_m, Y.tOr_m, Y.tM_ok, Y.tNot_ok, Y.tB_ok, Y.tB_ex, Y.tT_ok, Y.tT2_s, Y.tB2_s, Y.tru_non, Y.tru_bl, Y.tru_int, Y.tru_lst, Y.tru_tup, Y.kS_nx, Y.kS_ct, Y.kS_ret, Y.kS_ex, Y.asgA_ok, Y.asgA_ex, Y.asgB_s, Y.bindV_v, Y.bindV_r, Y.bindV_b, Y.bindV_bn, Y.isCon_lst, Y.isCon_dK, Y.isCon_dT, Y.isCon_obj, Y.isCon_non, Y.isCon_bx, Y.isCon_tup, Y.isCon_bl, Y.isCon_int, Y.isCon_str, Y.imm_non, Y.imm_bl, Y.imm_int, Y.imm_str, Y.imm_bx, Y.imm_lst, Y.imm_dK, Y.imm_dT, Y.imm_obj, Y.imm_tup, Y.immL_n, Y.immL_c, Y.nbx_non, Y.nbx_bl, Y.nbx_int, Y.nbx_str, Y.nbx_bx, Y.nbx_lst, Y.nbx_dK, Y.nbx_dT, Y.nbx_obj, Y.nbx_tup, Y.nbxL_n, Y.nbxL_c, Y.nbxL_app, Y.immL_app, Y.nbxL_int, Y.nbxL_str, Y.immL_int, Y.immL_str, Y.snapF_nb, Y.argP_nb, Y.lentK_v, Y.lentK_r, Y.lentK_t, Y.argP_bv, Y.agB_s, Y.fits_r, Y.fits_v, Y.settle_v, Y.settle_r, Y.settle_t, Y.stT_s, Y.unpA_ok, Y.unpA_ex, Y.unpB_s, Y.unpTo_2, Y.unp2_s, Y.unpTo_5, Y.unpn_s, Y.exA_ok, Y.exA_ex, Y.retA_v, Y.retA_r, Y.retA_ex, Y.iteA_q, Y.iteA_ex, Y.forA_n, Y.forA_s, Y.unlk_nx, Y.unlk_ret, Y.unlk_ex, Y.lockB_eq, Y.lkB2_s, Y.lockOf_eq, Y.lkO2_s, Y.forK_nx, Y.forK_ct, Y.forK_ret, Y.forK_ex, Y.itS_ok, Y.itS_ex, Y.itE_ok, Y.itV_ok, Y.itS2_l, Y.itS2_t, Y.itE2_l, Y.itV2_l, Y.enuO_s, Y.revO_s, Y.itB_s, Y.items_v, Y.items_r, Y.items_t, Y.itT_s, Y.itR_1, Y.itR_2, Y.itR_ex, Y.sbA_v, Y.sbA_r, Y.sbA_ex, Y.sbB_ok, Y.sbC_ok, Y.sbD_s, Y.sbE_s, Y.fdA_v, Y.fdA_r, Y.fdA_ex, Y.fdB_ok, Y.fdD_s, Y.fzA_b, Y.fzB_s, Y.plA_s, Y.plB_s, Y.pg_n, Y.pg_c, Y.pgO_s, Y.ps_n, Y.ps_c, Y.psO_s, Y.kids_obj, Y.kids_lst, Y.kids_tup, Y.kids_dK, Y.kids_dT, Y.wk_obj, Y.wk_lst, Y.wk_tup, Y.wk_dK, Y.wk_dT, Y.setB_q, Y.sB2_s, Y.fnA_nx, Y.fnA_ret, Y.fnA_ex, Y.rnA_nx, Y.rnA_ret, Y.rnA_ex, Y.outP_v, Y.outP_r, Y.gam_call, Y.gam_cls, Y.norm_vl, Y.norm_fr, Y.mk_inj, Y.mk_one, Y.o_add, Y.o_sub, Y.o_mul, Y.o_fdiv, Y.o_mod, Y.o_pow, Y.o_shl, Y.o_shr, Y.o_band, Y.o_bor, Y.o_neg, Y.o_abs, Y.o_lt, Y.o_le, Y.o_gt, Y.o_ge, Y.o_min2, Y.o_max2, Y.bO_s, Y.bN_s, Y.o_eq, Y.o_ne, Y.eq_i, Y.eq_s, Y.eq_b, Y.o_notB, Y.o_isN, Y.o_notN, Y.o_isI, Y.isn_non, Y.isn_bl, Y.isn_int, Y.isn_str, Y.isn_tup, Y.isn_lst, Y.isT_non, Y.isT_bl, Y.isT_int, Y.isT_str, Y.isT_lst, Y.isT_tup, Y.o_adds, Y.o_lens, Y.o_idxs, Y.sO_s, Y.o_slhs, Y.o_slls, Y.o_sl2s, Y.sIx_p, Y.sIx_n0, Y.cut_hi, Y.cut_lo, Y.cut_2, Y.lsK_s, Y.tpK_s, Y.o_sl1t, Y.o_inn, Y.o_nin, Y.in_signM, Y.tru_s, Y.itS2_m, Y.o_lenl, Y.o_lent, Y.o_lend, Y.kid_eq, Y.kdJ_s, Y.kdD_s, Y.kdK_s, Y.kidK_v, Y.kidK_0, Y.kidK_1, Y.kidK_2, Y.kidK_t, Y.kkT_s, Y.ixN_p, Y.ixN_m, Y.o_idxl, Y.o_idxt, Y.isStr_i, Y.isInt_i, Y.isBl_i, Y.get_str, Y.get_int, Y.get_bl, Y.o_tup, Y.o_lst, Y.o_lst0, Y.o_tup0, Y.o_emK, Y.o_emT, Y.o_fld, Y.fO_s, Y.o_list1, Y.o_list1t, Y.o_list1d, Y.o_tup1, Y.o_addl, Y.adL_s, Y.o_addt, Y.adT_s, Y.mt_append, Y.mt_pop0, Y.poO_s, Y.mt_reverse, Y.mt_clear, Y.mt_extend, Y.tm_append, Y.tm_extend, Y.tm_pop0, Y.tm_pop1, Y.tm_remove, Y.tm_reverse, Y.tm_clear, Y.tm_insert, Y.o_find1, Y.o_find2, Y.o_str1, Y.o_int1, Y.o_int1i, Y.o_int1b, Y.range_0, Y.range_1, Y.range_2, Y.range_3, Y.range_4, Y.range_5, Y.sum_ints, Y.okD_int, Y.okD_bl, Y.okD_non, Y.okL_c, Y.okL_n, Y.okD_tup, Y.okD_lst, Y.get_last, Y.get_lastn, Y.drop_last, Y.whB_eq, Y.whA_q, Y.ex_whl, Y.ex_tr, Y.ex_tr0, Y.trA_nx, Y.trA_ct, Y.trA_ret, Y.trA_ex, Y.tr0A_nx, Y.tr0A_ct, Y.tr0A_ret, Y.subX_s, Y.subX_n, Y.suiteR_nx, Y.suiteR_ct, Y.suiteR_ret, Y.goneX_n, Y.goneX_s, Y.bindX_n, Y.bindX_s, Y.hotG_nx, Y.hotG_cls, Y.hotG_call, Y.gam_nx, Y.ev_isX, Y.ev_callX, Y.xOf_h, Y.xoA_s, Y.isXA_s, Y.cxA_s, Y.cxR_ok, Y.dPos_T, Y.dPos_I, Y.dIn_T, Y.dIn_I, Y.dIn_lT, Y.o_idxT, Y.o_idxI, Y.ioK_s, Y.goK_s, Y.goK_n, Y.o_get1T, Y.o_get1I, Y.o_get2T, Y.stO_s, Y.stO_n, Y.sv_T, Y.sv_I, Y.sv_l, Y.sfO_s, Y.sfO_n, Y.sf_o, Y.ppN_s, Y.ppO_s, Y.mt_popT, Y.mt_popI, Y.rmN_s, Y.mt_removeT, Y.mt_removeI, Y.tm_popd, Y.o_muls, Y.o_srtI, Y.o_srtT, Y.o_srdI, Y.o_srdT, Y.o_dict1, Y.dcO_s, Y.nbxL_T, Y.immL_T, Y.place_tl, Y.place_td, Y.place_to, Y.ev_ch, Y.chA_ok, Y.chB_ok, Y.chC_t, Y.chC_f, Y.chD_ok, Y.snoc_get, Y.snoc_set, Y.app_get, Y.app_set, Y.norm_lst, Y.norm_int, Y.norm_str, Y.norm_bl, Y.norm_non, Y.norm_tup, Y.norm_dK, Y.norm_obj, ite_self, Int.toNat_natCast, true_or, or_true, false_or, or_false, Int.cast_ofNat_Int, Int.natCast_one, Int.ofNat_zero, Int.reduceLT, Int.reduceLE, Int.reduceAdd, Int.reduceSub, Int.reduceEq, Int.reduceNe, Int.reduceNeg, List.cons.injEq, and_true, true_and, and_self, List.take_succ_cons, List.take_zero, List.drop_succ_cons, List.drop_zero, reduceCtorEq, not_true_eq_false, not_false_eq_true, eq_self, and_false, false_and, List.getElem?_cons_zero, List.getElem?_cons_succ, List.set_cons_zero, List.set_cons_succ, List.map_cons, List.map_nil, List.all_cons, List.all_nil, List.length_cons, List.length_nil, List.cons_append, List.nil_append, List.append_nil, List.replicate, Nat.sub_self, Bool.and_true, Bool.true_and, Bool.and_false, Bool.false_and, Bool.or_false, Bool.false_or, Bool.or_true, Bool.true_or, Bool.not_true, Bool.not_false, ite_true, ite_false, Bool.false_eq_true, reduceIte, if_true, if_false, decide_true, decide_false, Nat.reduceAdd, Nat.reduceSub, Nat.reduceLT, Nat.reduceLeDiff, Nat.reduceEqDiff, Int.reduceToNat, List.zip_cons_cons, List.zip_nil_left, List.foldl_cons, List.foldl_nil, Nat.reduceBEq, decide_eq_true_eq, Nat.zero_add, Nat.le_refl, Z.isVl, Nat.succ_eq_add_one, $ls,*] at $h:ident)
theorem okRow_all : ∀ {ps : List Pc}, okRow ps → ∀ p ∈ ps, p.ok'
  | [], _, _, h => by cases h
  | q :: ps, hr, p, h => by
    rcases List.mem_cons.mp h with h | h
    · subst h
      cases p with
      | sg c => exact hr.1
      | mk nm b o => exact ⟨hr.1, hr.2.1⟩
    · exact okRow_all (okRow_tail hr) p h
theorem okRow_one {p : Pc} (h : p.ok') : okRow [p] := by
  cases p with
  | sg c => exact ⟨h, trivial⟩
  | mk nm b o => exact ⟨h.1, h.2, fun _ c r e => (by cases e), trivial⟩
theorem okRow_snoc : ∀ {ps : List Pc} {p : Pc}, okRow ps → p.ok' → (∀ pre nm b o, ps = pre ++ [.mk nm b o] → fol nm o p.sh) → okRow (ps ++ [p])
  | [], p, _, hp, _ => okRow_one hp
  | .sg c :: ps, p, h, hp, hl => ⟨h.1, okRow_snoc h.2 hp fun pre nm b o e => hl (.sg c :: pre) nm b o (by rw [e]; rfl)⟩
  | .mk nm b o :: ps, p, h, hp, hl => by
    refine ⟨h.1, h.2.1, ?_, okRow_snoc h.2.2.2 hp fun pre nm' b' o' e => hl (.mk nm b o :: pre) nm' b' o' (by rw [e]; rfl)⟩
    show fol nm o (shL (ps ++ [p]))
    rw [shL_app]
    cases ps with
    | nil =>
      have := hl [] nm b o rfl
      show fol nm o ([] ++ (p.sh ++ []))
      rw [List.nil_append, List.append_nil]
      exact this
    | cons q r =>
      intro ho c r' e
      have hp := sh_pos h.2.2.2
      obtain ⟨c1, r1, e1⟩ : ∃ c1 r1, shL (q :: r) = c1 :: r1 := by
        cases hx : shL (q :: r) with
        | nil =>
          have h2 : (q.sh ++ shL r).length = 0 := by
            have : q.sh ++ shL r = [] := hx
            rw [this]; rfl
          rw [List.length_append] at h2; omega
        | cons c1 r1 => exact ⟨c1, r1, rfl⟩
      rw [e1] at e
      have ec : c1 = c := (List.cons.inj e).1
      subst ec
      exact h.2.2.1 ho c1 r1 e1
theorem snoc_of {α : Type} {xs : List α} (h : xs ≠ []) : ∃ pre x, xs = pre ++ [x] := ⟨xs.dropLast, xs.getLast h, (List.dropLast_concat_getLast h).symm⟩
theorem sh_head {p : Pc} (h : p.ok') : ∃ c r, p.sh = c :: r ∧ c ≠ 91 := by
  cases p with
  | sg c =>
    refine ⟨c, [], rfl, fun z => ?_⟩
    have : c ∈ sgs := h
    rw [z] at this
    exact absurd this (by decide)
  | mk nm b o =>
    obtain ⟨c, r, e, hc⟩ := nm_cons h.1
    cases b with
    | true => exact ⟨60, nm ++ cnd o, rfl, by decide⟩
    | false =>
      refine ⟨c, r ++ cnd o, by show [] ++ nm ++ cnd o = _; rw [e]; rfl, fun z => ?_⟩
      rcases hc with q | q
      · omega
      · have := let_lo q; omega
/-- the last sign of a mark without a condition is its name's -/
theorem last_let {nm : Nm} {b : Bool} {s' : List Nat} {cl : Nat} (hn : nmOk nm) (h95 : nm ≠ [95]) (e : (Pc.mk nm b none).sh = s' ++ [cl]) : cl ∈ lets := by
  have hg := hn.resolve_left h95
  obtain ⟨h1, _, h3⟩ := goodA_iff.mp hg
  obtain ⟨pre, x, ex⟩ := snoc_of (xs := nm) (fun z => by rw [z] at h1; exact absurd h1 (by decide))
  have e2 : (bk b ++ pre) ++ [x] = s' ++ [cl] := by
    rw [← e]
    show _ = bk b ++ nm ++ []
    rw [ex, List.append_nil, List.append_assoc]
  have hx : x = cl := by
    have := (List.append_inj' e2 rfl).2
    exact (List.cons.inj this).1
  rw [← hx]
  exact of_decide_eq_true (List.all_eq_true.mp h3 x (by rw [ex]; exact List.mem_append_right _ List.mem_cons_self))
theorem row_turn (n : Nat) {c : Int} {row : List Pc} {e0 o3 : Option (Bool × D)} (hr : okRow row) (hl : row.length ≤ 1000) :
    ∃ row' o3', okRow row' ∧ row'.length ≤ row.length + 2 ∧ exs (gam P (n + 2)) b_law_row_0 [e0, some (false, .bx 0), some (false, .int c), o3] [some ⟨1, false, false, .lst (row.map Pc.enc)⟩] = .nx [e0, some (false, .bx 0), some (false, .int c), o3'] [some ⟨1, false, false, .lst (row'.map Pc.enc)⟩] := by
  obtain ⟨nm, b, o, hn, ho, mr⟩ := markby_run n (c / 14) (l := false)
  have mi : (Pc.mk nm b o).enc.imm = true := encP_nt
  -- the piece
  have piece : ∃ p : Pc, p.ok' ∧ ((c % 14 < 7 ∧ ∃ x, p = .sg x ∧ atI sgs (c % 14) = some x) ∨ (¬ c % 14 < 7 ∧ p = .mk nm b o)) := by
    by_cases h7 : c % 14 < 7
    · obtain ⟨x, hx, hx2⟩ := Y.atI_ex (xs := sgs) (p := fun c => decide (c ∈ sgs)) (i := c % 14) (by decide) (by omega) (by show _ < (7 : Int); omega)
      exact ⟨.sg x, (of_decide_eq_true hx2 : x ∈ sgs), .inl ⟨h7, x, rfl, hx⟩⟩
    · exact ⟨.mk nm b o, ⟨hn, ho⟩, .inr ⟨h7, rfl⟩⟩
  obtain ⟨p, pok, hp⟩ := piece
  have sp := shown_run (n + 1) pok (l := false)
  obtain ⟨ch, rh, eh, nh⟩ := sh_head pok
  have ah : atI p.sh 0 = some ch := by rw [eh, Y.atI_p (by decide) (by simp)]; rfl
  have pl := sh_len pok
  have lh := fun c => letter_run (n + 1) c (l := false)
  have pi : p.enc.imm = true := encP_nt
  have dotok : (Pc.sg 46).ok' := by show 46 ∈ sgs; decide
  have hz : (row.map Pc.enc).length < 99999 := by rw [List.length_map]; omega
  have hz2 : (row.map Pc.enc ++ [Pc.enc (.sg 46)]).length < 100000 := by rw [List.length_append]; show _ + 1 < _; omega
  have e1 : (row ++ [p]).map Pc.enc = row.map Pc.enc ++ [p.enc] := by rw [List.map_append]; rfl
  have e2 : ((row ++ [Pc.sg 46]) ++ [p]).map Pc.enc = row.map Pc.enc ++ [.str (mkS [46])] ++ [p.enc] := by rw [List.map_append, List.map_append]; rfl
  have o2 : okRow (row ++ [.sg 46]) := okRow_snoc hr dotok fun pre nm b o e ho c r ec => by
    have : c = 46 := (List.cons.inj (show [46] = c :: r from ec)).1.symm
    rw [this]; exact ⟨by decide, fun _ => by decide⟩
  have o3' : okRow ((row ++ [Pc.sg 46]) ++ [p]) := okRow_snoc o2 pok fun pre nm b o e => by
    have := (List.append_inj' e rfl).2
    cases (List.cons.inj this).1
  obtain ⟨d, hd⟩ : ∃ d, d = p.enc := ⟨_, rfl⟩
  have dd : ∀ (S : Sto) (k : Kd), der S (k, d) = some (k, d) := fun S k => Y.der_of (by
    rw [hd]
    cases p with
    | sg c => rfl
    | mk nm b o => rcases o with _ | ⟨s, v⟩ <;> rfl)
  have di : d.imm = true := by rw [hd]; exact pi
  have dn : d.noBx = true := by
    rw [hd]
    cases p with
    | sg c => rfl
    | mk nm b o => rcases o with _ | ⟨s, v⟩ <;> rfl
  rw [← hd] at sp e1 e2
  have hd1 : c % 14 < 7 → ∃ x, d = .str (mkS [x]) ∧ atI sgs (c % 14) = some x := fun h => by
    rcases hp with ⟨_, x, hx, ha⟩ | ⟨h', _⟩
    · exact ⟨x, by rw [hd, hx]; rfl, ha⟩
    · exact absurd h h'
  have hd2 : ¬ c % 14 < 7 → d = (Pc.mk nm b o).enc := fun h => by
    rcases hp with ⟨h', _⟩ | ⟨_, hx⟩
    · exact absurd h' h
    · rw [hd, hx]
  by_cases hrow : row = []
  · subst hrow
    refine ⟨[p], some (false, d), okRow_one pok, by simp, ?_⟩
    rw [show ([p] : List Pc).map Pc.enc = [d] by rw [hd]; rfl]
    by_cases h7 : c % 14 < 7
    · obtain ⟨x, hx, ha⟩ := hd1 h7
      subst hx
      simp_arith (disch := simp only [b_law_row_0, mr, mi, h7, ha]) only [b_law_row_0, mr, mi, h7, ha]
    · have hx := hd2 h7
      rw [← hx] at mr mi
      simp_arith (disch := simp only [b_law_row_0, mr, di, dd, h7]) only [b_law_row_0, mr, di, dd, h7]
  · obtain ⟨pre, q, hq⟩ := snoc_of hrow
    have qok : q.ok' := okRow_all hr q (by rw [hq]; exact List.mem_append_right _ List.mem_cons_self)
    have sq := shown_run (n + 1) qok (l := false)
    have ql := sh_len qok
    have qpos : 0 < q.sh.length := by
      obtain ⟨c, r, e, _⟩ := sh_head qok
      rw [e]; simp
    obtain ⟨sx, cl, ecl⟩ := snoc_of (xs := q.sh) (fun z => by rw [z] at qpos; exact absurd qpos (by decide))
    have al : atI q.sh (-1) = some cl := by
      rw [Y.atI_n (by decide) (by omega), ecl]
      have : ((-1 : Int) + ((sx ++ [cl]).length : Nat)).toNat = sx.length := by
        rw [List.length_append]; show (-1 + ((sx.length + 1 : Nat) : Int)).toNat = _; omega
      rw [this, List.getElem?_append_right (Nat.le_refl _), Nat.sub_self]; rfl
    have er : row.map Pc.enc = pre.map Pc.enc ++ [q.enc] := by rw [hq, List.map_append]; rfl
    have rl : (0 : Int) < ((pre.map Pc.enc ++ [q.enc]).length : Nat) := by
      rw [List.length_append]; show (0 : Int) < ((_ + 1 : Nat) : Int); omega
    have qi : q.enc.imm = true := encP_nt
    obtain ⟨u, hu⟩ : ∃ u, u = q.enc := ⟨_, rfl⟩
    have ud : ∀ (S : Sto) (k : Kd), der S (k, u) = some (k, u) := fun S k => Y.der_of (by
      rw [hu]
      cases q with
      | sg c => rfl
      | mk nm b o => rcases o with _ | ⟨s, v⟩ <;> rfl)
    have un : u.noBx = true := by
      rw [hu]
      cases q with
      | sg c => rfl
      | mk nm b o => rcases o with _ | ⟨s, v⟩ <;> rfl
    have ui : u.imm = true := by rw [hu]; exact qi
    rw [← hu] at er sq rl
    have nu := fun (k : Kd) => Y.norm_i (k := k) ui
    obtain ⟨X, hX⟩ : ∃ X, X = pre.map Pc.enc := ⟨_, rfl⟩
    rw [← hX] at er rl
    rw [er] at e1 e2 hz hz2 ⊢
    have xl : (X ++ [u]).length = X.length + 1 := by rw [List.length_append]; rfl
    have b1 : ¬ ((X ++ [u]).length : Int) < 1 := by omega
    by_cases hlet : cl ∈ lets ∧ ch ∈ lets
    · refine ⟨(row ++ [Pc.sg 46]) ++ [p], some (false, d), o3', by simp, ?_⟩
      rw [e2]
      by_cases h7 : c % 14 < 7
      · obtain ⟨x, hx, ha⟩ := hd1 h7
        subst hx
        simp_arith (disch := simp only [b_law_row_0, mr, mi, h7, ha, rl, Y.get_last, ud, un, ui, nu, sq, al, lh, hlet.1, hlet.2, sp, ah, hz, hz2]) only [b_law_row_0, mr, mi, h7, ha, rl, Y.get_last, ud, un, ui, nu, sq, al, lh, hlet.1, hlet.2, sp, ah, hz, hz2]
      · have hx := hd2 h7
        rw [← hx] at mr mi
        simp_arith (disch := simp only [b_law_row_0, mr, di, dd, dn, h7, rl, Y.get_last, ud, un, ui, nu, sq, al, lh, hlet.1, hlet.2, sp, ah, hz, hz2]) only [b_law_row_0, mr, di, dd, dn, h7, rl, Y.get_last, ud, un, ui, nu, sq, al, lh, hlet.1, hlet.2, sp, ah, hz, hz2]
    · refine ⟨row ++ [p], some (false, d), okRow_snoc hr pok (fun pre' nm' b' o' e' ho' c' r' ec => ?_), by simp, ?_⟩
      · have e3 : pre ++ [q] = pre' ++ [.mk nm' b' o'] := by rw [← hq, e']
        have e4 : q = .mk nm' b' o' := (List.cons.inj (List.append_inj' e3 rfl).2).1
        have e5 : c' = ch := by rw [eh] at ec; exact (List.cons.inj ec).1.symm
        rw [e5]
        refine ⟨nh, fun h95 => fun hch => hlet ⟨?_, hch⟩⟩
        rw [ho'] at e4
        rw [e4] at ecl
        exact last_let (by have := qok; rw [e4] at this; exact this.1) h95 ecl
      · rw [e1]
        by_cases h7 : c % 14 < 7
        · obtain ⟨x, hx, ha⟩ := hd1 h7
          subst hx
          by_cases hcl : cl ∈ lets
          · have hch : ¬ ch ∈ lets := fun z => hlet ⟨hcl, z⟩
            simp_arith (disch := simp only [b_law_row_0, mr, mi, h7, ha, rl, Y.get_last, ud, un, ui, nu, sq, al, lh, hcl, hch, sp, ah, hz, hz2]) only [b_law_row_0, mr, mi, h7, ha, rl, Y.get_last, ud, un, ui, nu, sq, al, lh, hcl, hch, sp, ah, hz, hz2]
          · simp_arith (disch := simp only [b_law_row_0, mr, mi, h7, ha, rl, Y.get_last, ud, un, ui, nu, sq, al, lh, hcl, sp, ah, hz, hz2]) only [b_law_row_0, mr, mi, h7, ha, rl, Y.get_last, ud, un, ui, nu, sq, al, lh, hcl, sp, ah, hz, hz2]
        · have hx := hd2 h7
          rw [← hx] at mr mi
          by_cases hcl : cl ∈ lets
          · have hch : ¬ ch ∈ lets := fun z => hlet ⟨hcl, z⟩
            simp_arith (disch := simp only [b_law_row_0, mr, di, dd, dn, h7, rl, Y.get_last, ud, un, ui, nu, sq, al, lh, hcl, hch, sp, ah, hz, hz2]) only [b_law_row_0, mr, di, dd, dn, h7, rl, Y.get_last, ud, un, ui, nu, sq, al, lh, hcl, hch, sp, ah, hz, hz2]
          · simp_arith (disch := simp only [b_law_row_0, mr, di, dd, dn, h7, rl, Y.get_last, ud, un, ui, nu, sq, al, lh, hcl, sp, ah, hz, hz2]) only [b_law_row_0, mr, di, dd, dn, h7, rl, Y.get_last, ud, un, ui, nu, sq, al, lh, hcl, sp, ah, hz, hz2]
end L17

namespace L17
open Z Hd PySem L2 TL
local macro_rules
  | `(tactic| simp_arith (disch := simp only [$ds,*]) only [$ls,*]) => `(tactic| simp (disch := first | assumption | omega | ((try simp only [Y.fits_r, Y.fits_v, Y.isCon_lst, Y.isCon_dK, Y.isCon_dT, Y.isCon_obj, Y.isCon_non, Y.isCon_bx, Y.isCon_tup, Y.isCon_bl, Y.isCon_int, Y.isCon_str, Y.isMth_add, Y.isMth_sub, Y.isMth_mul, Y.isMth_fdiv, Y.isMth_mod, Y.isMth_pow, Y.isMth_shl, Y.isMth_shr, Y.isMth_band, Y.isMth_bor, Y.isMth_neg, Y.isMth_notB, Y.isMth_eq, Y.isMth_ne, Y.isMth_lt, Y.isMth_le, Y.isMth_gt, Y.isMth_ge, Y.isMth_isN, Y.isMth_notN, Y.isMth_inn, Y.isMth_nin, Y.isMth_idx, Y.isMth_len, Y.isMth_abs, Y.isMth_int1, Y.isMth_str1, Y.isMth_min2, Y.isMth_max2, Y.isMth_minL, Y.isMth_maxL, Y.isMth_sumL, Y.isMth_anyL, Y.isMth_list1, Y.isMth_tuple1, Y.isMth_sorted1, Y.isMth_dict1, Y.isMth_emK, Y.isMth_emT, Y.isMth_join, Y.isMth_split, Y.isMth_find2, Y.isMth_find1, Y.isMth_index, Y.isMth_count, Y.isMth_get1, Y.isMth_get2, Y.isMth_sl, Y.isMth_isI, Y.isMth_tupD, Y.isMth_lstD, Y.isMth_fld, Y.imm_non, Y.imm_bl, Y.imm_int, Y.imm_str, Y.imm_bx, Y.imm_lst, Y.imm_dK, Y.imm_dT, Y.imm_obj, Y.imm_tup, Y.immL_n, Y.immL_c, Y.nbx_non, Y.nbx_bl, Y.nbx_int, Y.nbx_str, Y.nbx_bx, Y.nbx_lst, Y.nbx_dK, Y.nbx_dT, Y.nbx_obj, Y.nbx_tup, Y.nbxL_n, Y.nbxL_c, Y.nbxL_app, Y.immL_app, Y.nbxL_int, Y.nbxL_str, Y.immL_int, Y.immL_str, Y.tm_append, Y.tm_extend, Y.tm_pop0, Y.tm_pop1, Y.tm_remove, Y.tm_reverse, Y.tm_clear, Y.tm_insert, Y.tm_popd, Y.nbxL_T, Y.immL_T, List.all_cons, List.all_nil, List.length_cons, List.length_nil, List.length_map, List.length_append, Bool.and_true, Bool.true_and, Bool.or_true, Bool.true_or, Bool.or_false, Bool.false_or, Bool.not_false, Bool.not_true, Nat.reduceAdd, Nat.reduceSub, Nat.reduceLeDiff, Nat.reduceLT, Nat.reduceBEq, beq_self_eq_true, decide_true, decide_eq_true_eq, Nat.zero_le, Nat.le_refl, Y.mk_len, Y.isStr_i, Y.isInt_i, Y.isBl_i, $ds,*]); first | done | omega | fail "no")) only [Y.ev_v, Y.ev_vm, Y.ev_k, Y.ev_g, Y.evs_n, Y.evs_c, Y.ev_op, Y.ev_and, Y.ev_or, Y.ev_callP, Y.ev_callI, Y.ev_meth, Y.ev_mut, Y.ev_lc, Y.ev_mk, Y.evIt_seq, Y.evIt_rng, Y.evIt_enu, Y.evIt_rev, Y.tst_and, Y.tst_or, Y.tst_not, Y.tst_b, Y.tst_t, Y.exs_n, Y.exs_c, Y.ex_asg, Y.ex_unp, Y.ex_ex, Y.ex_ret, Y.ex_retN, Y.ex_raise, Y.ex_pass, Y.ex_cont, Y.ex_ite, Y.ex_for, Y.ex_sub, Y.ex_fld, Y.ex_fz, Y.forGo_n, Y.forB1, Y.forB2, Y.forB3, Y.callP_eq, Y.place_bx, Y.isMth_add, Y.isMth_sub, Y.isMth_mul, Y.isMth_fdiv, Y.isMth_mod, Y.isMth_pow, Y.isMth_shl, Y.isMth_shr, Y.isMth_band, Y.isMth_bor, Y.isMth_neg, Y.isMth_notB, Y.isMth_eq, Y.isMth_ne, Y.isMth_lt, Y.isMth_le, Y.isMth_gt, Y.isMth_ge, Y.isMth_isN, Y.isMth_notN, Y.isMth_inn, Y.isMth_nin, Y.isMth_idx, Y.isMth_len, Y.isMth_abs, Y.isMth_int1, Y.isMth_str1, Y.isMth_min2, Y.isMth_max2, Y.isMth_minL, Y.isMth_maxL, Y.isMth_sumL, Y.isMth_anyL, Y.isMth_list1, Y.isMth_tuple1, Y.isMth_sorted1, Y.isMth_dict1, Y.isMth_emK, Y.isMth_emT, Y.isMth_join, Y.isMth_split, Y.isMth_find2, Y.isMth_find1, Y.isMth_index, Y.isMth_count, Y.isMth_get1, Y.isMth_get2, Y.isMth_sl, Y.isMth_isI, Y.isMth_tupD, Y.isMth_lstD, Y.isMth_fld, Y.lk_s, Y.lkm_s, Y.lkb_s, Y.evsC_ok, Y.evsC_ex, Y.evsD_f, Y.evsD_v, Y.evsD_r, Y.evsD_ex, Y.opA_ok, Y.tyH_0, Y.tyH_1, Y.tyH_2, Y.tyH_3, Y.tyH_4, Y.tyH_5, Y.tyH_6, Y.tyH_7, Y.tyH_8, Y.tyH_9, Y.opA_m, Y.opM_t, Y.opA_ex, Y.opC_s, Y.opD_s, Y.derL_n, Y.derL_c, Y.derC_s, Y.der_non, Y.der_bl, Y.der_int, Y.der_str, Y.der_tup, Y.der_lst, Y.der_dK, Y.der_dT, Y.der_obj, Y.der_bx, Y.derB_s, Y.andA_ok, Y.orA_ok, Y.andA_ex, Y.orA_ex, Y.andB_q, Y.orB_q, Y.orM_ok, Y.orM_ex, Y.callA_ok, Y.callA_ex, Y.cpI_t, Y.cpR_ok, Y.cpR_ex, Y.icA_ok, Y.icA_ex, Y.icC_s, Y.icD_v, Y.icD_r, Y.icD_ex, Y.argsI_n, Y.argsI_c, Y.agC_s, Y.argI_v, Y.argI_r, Y.mtA_ok, Y.mtC_s, Y.mtD_s, Y.mtE_p, Y.mtE_i, Y.mtE_ex, Y.muA_ok, Y.muO_s, Y.muB_ok, Y.muB_ex, Y.muC_f, Y.muC_n, Y.muD_s, Y.muE_s, Y.lcA_ok, Y.lcA_ex, Y.lcD_ok, Y.lcF_1, Y.lcF_2, Y.lcB_q, Y.lcE_ok, Y.evC_n, Y.evC_c, Y.ecB_q, Y.lockO_n, Y.lockO_s, Y.mkA_s, Y.mkB_ok, Y.mkB_ex, Y.mkC_s, Y.mkD_t, Y.mkD_f, Y.mkD_ex, Y.tAnd_ok, Y.tOr_ok, Y.tAnd_m, Y.tOr_m, Y.tM_ok, Y.tNot_ok, Y.tB_ok, Y.tB_ex, Y.tT_ok, Y.tT2_s, Y.tB2_s, Y.tru_non, Y.tru_bl, Y.tru_int, Y.tru_lst, Y.tru_tup, Y.kS_nx, Y.kS_ct, Y.kS_ret, Y.kS_ex, Y.asgA_ok, Y.asgA_ex, Y.asgB_s, Y.bindV_v, Y.bindV_r, Y.bindV_b, Y.bindV_bn, Y.isCon_lst, Y.isCon_dK, Y.isCon_dT, Y.isCon_obj, Y.isCon_non, Y.isCon_bx, Y.isCon_tup, Y.isCon_bl, Y.isCon_int, Y.isCon_str, Y.imm_non, Y.imm_bl, Y.imm_int, Y.imm_str, Y.imm_bx, Y.imm_lst, Y.imm_dK, Y.imm_dT, Y.imm_obj, Y.imm_tup, Y.immL_n, Y.immL_c, Y.nbx_non, Y.nbx_bl, Y.nbx_int, Y.nbx_str, Y.nbx_bx, Y.nbx_lst, Y.nbx_dK, Y.nbx_dT, Y.nbx_obj, Y.nbx_tup, Y.nbxL_n, Y.nbxL_c, Y.nbxL_app, Y.immL_app, Y.nbxL_int, Y.nbxL_str, Y.immL_int, Y.immL_str, Y.snapF_nb, Y.argP_nb, Y.lentK_v, Y.lentK_r, Y.lentK_t, Y.argP_bv, Y.agB_s, Y.fits_r, Y.fits_v, Y.settle_v, Y.settle_r, Y.settle_t, Y.stT_s, Y.unpA_ok, Y.unpA_ex, Y.unpB_s, Y.unpTo_2, Y.unp2_s, Y.unpTo_5, Y.unpn_s, Y.exA_ok, Y.exA_ex, Y.retA_v, Y.retA_r, Y.retA_ex, Y.iteA_q, Y.iteA_ex, Y.forA_n, Y.forA_s, Y.unlk_nx, Y.unlk_ret, Y.unlk_ex, Y.lockB_eq, Y.lkB2_s, Y.lockOf_eq, Y.lkO2_s, Y.forK_nx, Y.forK_ct, Y.forK_ret, Y.forK_ex, Y.itS_ok, Y.itS_ex, Y.itE_ok, Y.itV_ok, Y.itS2_l, Y.itS2_t, Y.itE2_l, Y.itV2_l, Y.enuO_s, Y.revO_s, Y.itB_s, Y.items_v, Y.items_r, Y.items_t, Y.itT_s, Y.itR_1, Y.itR_2, Y.itR_ex, Y.sbA_v, Y.sbA_r, Y.sbA_ex, Y.sbB_ok, Y.sbC_ok, Y.sbD_s, Y.sbE_s, Y.fdA_v, Y.fdA_r, Y.fdA_ex, Y.fdB_ok, Y.fdD_s, Y.fzA_b, Y.fzB_s, Y.plA_s, Y.plB_s, Y.pg_n, Y.pg_c, Y.pgO_s, Y.ps_n, Y.ps_c, Y.psO_s, Y.kids_obj, Y.kids_lst, Y.kids_tup, Y.kids_dK, Y.kids_dT, Y.wk_obj, Y.wk_lst, Y.wk_tup, Y.wk_dK, Y.wk_dT, Y.setB_q, Y.sB2_s, Y.fnA_nx, Y.fnA_ret, Y.fnA_ex, Y.rnA_nx, Y.rnA_ret, Y.rnA_ex, Y.outP_v, Y.outP_r, Y.gam_call, Y.gam_cls, Y.norm_vl, Y.norm_fr, Y.mk_inj, Y.mk_one, Y.o_add, Y.o_sub, Y.o_mul, Y.o_fdiv, Y.o_mod, Y.o_pow, Y.o_shl, Y.o_shr, Y.o_band, Y.o_bor, Y.o_neg, Y.o_abs, Y.o_lt, Y.o_le, Y.o_gt, Y.o_ge, Y.o_min2, Y.o_max2, Y.bO_s, Y.bN_s, Y.o_eq, Y.o_ne, Y.eq_i, Y.eq_s, Y.eq_b, Y.o_notB, Y.o_isN, Y.o_notN, Y.o_isI, Y.isn_non, Y.isn_bl, Y.isn_int, Y.isn_str, Y.isn_tup, Y.isn_lst, Y.isT_non, Y.isT_bl, Y.isT_int, Y.isT_str, Y.isT_lst, Y.isT_tup, Y.o_adds, Y.o_lens, Y.o_idxs, Y.sO_s, Y.o_slhs, Y.o_slls, Y.o_sl2s, Y.sIx_p, Y.sIx_n0, Y.cut_hi, Y.cut_lo, Y.cut_2, Y.lsK_s, Y.tpK_s, Y.o_sl1t, Y.o_inn, Y.o_nin, Y.in_signM, Y.tru_s, Y.itS2_m, Y.o_lenl, Y.o_lent, Y.o_lend, Y.kid_eq, Y.kdJ_s, Y.kdD_s, Y.kdK_s, Y.kidK_v, Y.kidK_0, Y.kidK_1, Y.kidK_2, Y.kidK_t, Y.kkT_s, Y.ixN_p, Y.ixN_m, Y.o_idxl, Y.o_idxt, Y.isStr_i, Y.isInt_i, Y.isBl_i, Y.get_str, Y.get_int, Y.get_bl, Y.o_tup, Y.o_lst, Y.o_lst0, Y.o_tup0, Y.o_emK, Y.o_emT, Y.o_fld, Y.fO_s, Y.o_list1, Y.o_list1t, Y.o_list1d, Y.o_tup1, Y.o_addl, Y.adL_s, Y.o_addt, Y.adT_s, Y.mt_append, Y.mt_pop0, Y.poO_s, Y.mt_reverse, Y.mt_clear, Y.mt_extend, Y.tm_append, Y.tm_extend, Y.tm_pop0, Y.tm_pop1, Y.tm_remove, Y.tm_reverse, Y.tm_clear, Y.tm_insert, Y.o_find1, Y.o_find2, Y.o_str1, Y.o_int1, Y.o_int1i, Y.o_int1b, Y.range_0, Y.range_1, Y.range_2, Y.range_3, Y.range_4, Y.range_5, Y.sum_ints, Y.okD_int, Y.okD_bl, Y.okD_non, Y.okL_c, Y.okL_n, Y.okD_tup, Y.okD_lst, Y.get_last, Y.get_lastn, Y.drop_last, Y.whB_eq, Y.whA_q, Y.ex_whl, Y.ex_tr, Y.ex_tr0, Y.trA_nx, Y.trA_ct, Y.trA_ret, Y.trA_ex, Y.tr0A_nx, Y.tr0A_ct, Y.tr0A_ret, Y.subX_s, Y.subX_n, Y.suiteR_nx, Y.suiteR_ct, Y.suiteR_ret, Y.goneX_n, Y.goneX_s, Y.bindX_n, Y.bindX_s, Y.hotG_nx, Y.hotG_cls, Y.hotG_call, Y.gam_nx, Y.ev_isX, Y.ev_callX, Y.xOf_h, Y.xoA_s, Y.isXA_s, Y.cxA_s, Y.cxR_ok, Y.dPos_T, Y.dPos_I, Y.dIn_T, Y.dIn_I, Y.dIn_lT, Y.o_idxT, Y.o_idxI, Y.ioK_s, Y.goK_s, Y.goK_n, Y.o_get1T, Y.o_get1I, Y.o_get2T, Y.stO_s, Y.stO_n, Y.sv_T, Y.sv_I, Y.sv_l, Y.sfO_s, Y.sfO_n, Y.sf_o, Y.ppN_s, Y.ppO_s, Y.mt_popT, Y.mt_popI, Y.rmN_s, Y.mt_removeT, Y.mt_removeI, Y.tm_popd, Y.o_muls, Y.o_srtI, Y.o_srtT, Y.o_srdI, Y.o_srdT, Y.o_dict1, Y.dcO_s, Y.nbxL_T, Y.immL_T, Y.place_tl, Y.place_td, Y.place_to, Y.ev_ch, Y.chA_ok, Y.chB_ok, Y.chC_t, Y.chC_f, Y.chD_ok, Y.snoc_get, Y.snoc_set, Y.app_get, Y.app_set, Y.norm_lst, Y.norm_int, Y.norm_str, Y.norm_bl, Y.norm_non, Y.norm_tup, Y.norm_dK, Y.norm_obj, ite_self, Int.toNat_natCast, true_or, or_true, false_or, or_false, Int.cast_ofNat_Int, Int.natCast_one, Int.ofNat_zero, Int.reduceLT, Int.reduceLE, Int.reduceAdd, Int.reduceSub, Int.reduceEq, Int.reduceNe, Int.reduceNeg, List.cons.injEq, and_true, true_and, and_self, List.take_succ_cons, List.take_zero, List.drop_succ_cons, List.drop_zero, reduceCtorEq, not_true_eq_false, not_false_eq_true, eq_self, and_false, false_and, List.getElem?_cons_zero, List.getElem?_cons_succ, List.set_cons_zero, List.set_cons_succ, List.map_cons, List.map_nil, List.all_cons, List.all_nil, List.length_cons, List.length_nil, List.cons_append, List.nil_append, List.append_nil, List.replicate, Nat.sub_self, Bool.and_true, Bool.true_and, Bool.and_false, Bool.false_and, Bool.or_false, Bool.false_or, Bool.or_true, Bool.true_or, Bool.not_true, Bool.not_false, ite_true, ite_false, Bool.false_eq_true, reduceIte, if_true, if_false, decide_true, decide_false, Nat.reduceAdd, Nat.reduceSub, Nat.reduceLT, Nat.reduceLeDiff, Nat.reduceEqDiff, Int.reduceToNat, List.zip_cons_cons, List.zip_nil_left, List.foldl_cons, List.foldl_nil, Nat.reduceBEq, decide_eq_true_eq, Nat.zero_add, Nat.le_refl, Z.isVl, Nat.succ_eq_add_one, $ls,*])
  | `(tactic| simp_arith (disch := simp only [$ds,*]) only [$ls,*] at $h:ident) => `(tactic| simp (disch := first | assumption | omega | ((try simp only [Y.fits_r, Y.fits_v, Y.isCon_lst, Y.isCon_dK, Y.isCon_dT, Y.isCon_obj, Y.isCon_non, Y.isCon_bx, Y.isCon_tup, Y.isCon_bl, Y.isCon_int, Y.isCon_str, Y.isMth_add, Y.isMth_sub, Y.isMth_mul, Y.isMth_fdiv, Y.isMth_mod, Y.isMth_pow, Y.isMth_shl, Y.isMth_shr, Y.isMth_band, Y.isMth_bor, Y.isMth_neg, Y.isMth_notB, Y.isMth_eq, Y.isMth_ne, Y.isMth_lt, Y.isMth_le, Y.isMth_gt, Y.isMth_ge, Y.isMth_isN, Y.isMth_notN, Y.isMth_inn, Y.isMth_nin, Y.isMth_idx, Y.isMth_len, Y.isMth_abs, Y.isMth_int1, Y.isMth_str1, Y.isMth_min2, Y.isMth_max2, Y.isMth_minL, Y.isMth_maxL, Y.isMth_sumL, Y.isMth_anyL, Y.isMth_list1, Y.isMth_tuple1, Y.isMth_sorted1, Y.isMth_dict1, Y.isMth_emK, Y.isMth_emT, Y.isMth_join, Y.isMth_split, Y.isMth_find2, Y.isMth_find1, Y.isMth_index, Y.isMth_count, Y.isMth_get1, Y.isMth_get2, Y.isMth_sl, Y.isMth_isI, Y.isMth_tupD, Y.isMth_lstD, Y.isMth_fld, Y.imm_non, Y.imm_bl, Y.imm_int, Y.imm_str, Y.imm_bx, Y.imm_lst, Y.imm_dK, Y.imm_dT, Y.imm_obj, Y.imm_tup, Y.immL_n, Y.immL_c, Y.nbx_non, Y.nbx_bl, Y.nbx_int, Y.nbx_str, Y.nbx_bx, Y.nbx_lst, Y.nbx_dK, Y.nbx_dT, Y.nbx_obj, Y.nbx_tup, Y.nbxL_n, Y.nbxL_c, Y.nbxL_app, Y.immL_app, Y.nbxL_int, Y.nbxL_str, Y.immL_int, Y.immL_str, Y.tm_append, Y.tm_extend, Y.tm_pop0, Y.tm_pop1, Y.tm_remove, Y.tm_reverse, Y.tm_clear, Y.tm_insert, Y.tm_popd, Y.nbxL_T, Y.immL_T, List.all_cons, List.all_nil, List.length_cons, List.length_nil, List.length_map, List.length_append, Bool.and_true, Bool.true_and, Bool.or_true, Bool.true_or, Bool.or_false, Bool.false_or, Bool.not_false, Bool.not_true, Nat.reduceAdd, Nat.reduceSub, Nat.reduceLeDiff, Nat.reduceLT, Nat.reduceBEq, beq_self_eq_true, decide_true, decide_eq_true_eq, Nat.zero_le, Nat.le_refl, Y.mk_len, Y.isStr_i, Y.isInt_i, Y.isBl_i, $ds,*]); first | done | omega | fail "no")) only [Y.ev_v, Y.ev_vm, Y.ev_k, Y.ev_g, Y.evs_n, Y.evs_c, Y.ev_op, Y.ev_and, Y.ev_or, Y.ev_callP, Y.ev_callI, Y.ev_meth, Y.ev_mut, Y.ev_lc, Y.ev_mk, Y.evIt_seq, Y.evIt_rng, Y.evIt_enu, Y.evIt_rev, Y.tst_and, Y.tst_or, Y.tst_not, Y.tst_b, Y.tst_t, Y.exs_n, Y.exs_c, Y.ex_asg, Y.ex_unp, Y.ex_ex, Y.ex_ret, Y.ex_retN, Y.ex_raise, Y.ex_pass, Y.ex_cont, Y.ex_ite, Y.ex_for, Y.ex_sub, Y.ex_fld, Y.ex_fz, Y.forGo_n, Y.forB1, Y.forB2, Y.forB3, Y.callP_eq, Y.place_bx, Y.isMth_add, Y.isMth_sub, Y.isMth_mul, Y.isMth_fdiv, Y.isMth_mod, Y.isMth_pow, Y.isMth_shl, Y.isMth_shr, Y.isMth_band, Y.isMth_bor, Y.isMth_neg, Y.isMth_notB, Y.isMth_eq, Y.isMth_ne, Y.isMth_lt, Y.isMth_le, Y.isMth_gt, Y.isMth_ge, Y.isMth_isN, Y.isMth_notN, Y.isMth_inn, Y.isMth_nin, Y.isMth_idx, Y.isMth_len, Y.isMth_abs, Y.isMth_int1, Y.isMth_str1, Y.isMth_min2, Y.isMth_max2, Y.isMth_minL, Y.isMth_maxL, Y.isMth_sumL, Y.isMth_anyL, Y.isMth_list1, Y.isMth_tuple1, Y.isMth_sorted1, Y.isMth_dict1, Y.isMth_emK, Y.isMth_emT, Y.isMth_join, Y.isMth_split, Y.isMth_find2, Y.isMth_find1, Y.isMth_index, Y.isMth_count, Y.isMth_get1, Y.isMth_get2, Y.isMth_sl, Y.isMth_isI, Y.isMth_tupD, Y.isMth_lstD, Y.isMth_fld, Y.lk_s, Y.lkm_s, Y.lkb_s, Y.evsC_ok, Y.evsC_ex, Y.evsD_f, Y.evsD_v, Y.evsD_r, Y.evsD_ex, Y.opA_ok, Y.tyH_0, Y.tyH_1, Y.tyH_2, Y.tyH_3, Y.tyH_4, Y.tyH_5, Y.tyH_6, Y.tyH_7, Y.tyH_8, Y.tyH_9, Y.opA_m, Y.opM_t, Y.opA_ex, Y.opC_s, Y.opD_s, Y.derL_n, Y.derL_c, Y.derC_s, Y.der_non, Y.der_bl, Y.der_int, Y.der_str, Y.der_tup, Y.der_lst, Y.der_dK, Y.der_dT, Y.der_obj, Y.der_bx, Y.derB_s, Y.andA_ok, Y.orA_ok, Y.andA_ex, Y.orA_ex, Y.andB_q, Y.orB_q, Y.orM_ok, Y.orM_ex, Y.callA_ok, Y.callA_ex, Y.cpI_t, Y.cpR_ok, Y.cpR_ex, Y.icA_ok, Y.icA_ex, Y.icC_s, Y.icD_v, Y.icD_r, Y.icD_ex, Y.argsI_n, Y.argsI_c, Y.agC_s, Y.argI_v, Y.argI_r, Y.mtA_ok, Y.mtC_s, Y.mtD_s, Y.mtE_p, Y.mtE_i, Y.mtE_ex, Y.muA_ok, Y.muO_s, Y.muB_ok, Y.muB_ex, Y.muC_f, Y.muC_n, Y.muD_s, Y.muE_s, Y.lcA_ok, Y.lcA_ex, Y.lcD_ok, Y.lcF_1, Y.lcF_2, Y.lcB_q, Y.lcE_ok, Y.evC_n, Y.evC_c, Y.ecB_q, Y.lockO_n, Y.lockO_s, Y.mkA_s, Y.mkB_ok, Y.mkB_ex, Y.mkC_s, Y.mkD_t, Y.mkD_f, Y.mkD_ex, Y.tAnd_ok, Y.tOr_ok, Y.tAnd_m, Y.tOr_m, Y.tM_ok, Y.tNot_ok, Y.tB_ok, Y.tB_ex, Y.tT_ok, Y.tT2_s, Y.tB2_s, Y.tru_non, Y.tru_bl, Y.tru_int, Y.tru_lst, Y.tru_tup, Y.kS_nx, Y.kS_ct, Y.kS_ret, Y.kS_ex, Y.asgA_ok, Y.asgA_ex, Y.asgB_s, Y.bindV_v, Y.bindV_r, Y.bindV_b, Y.bindV_bn, Y.isCon_lst, Y.isCon_dK, Y.isCon_dT, Y.isCon_obj, Y.isCon_non, Y.isCon_bx, Y.isCon_tup, Y.isCon_bl, Y.isCon_int, Y.isCon_str, Y.imm_non, Y.imm_bl, Y.imm_int, Y.imm_str, Y.imm_bx, Y.imm_lst, Y.imm_dK, Y.imm_dT, Y.imm_obj, Y.imm_tup, Y.immL_n, Y.immL_c, Y.nbx_non, Y.nbx_bl, Y.nbx_int, Y.nbx_str, Y.nbx_bx, Y.nbx_lst, Y.nbx_dK, Y.nbx_dT, Y.nbx_obj, Y.nbx_tup, Y.nbxL_n, Y.nbxL_c, Y.nbxL_app, Y.immL_app, Y.nbxL_int, Y.nbxL_str, Y.immL_int, Y.immL_str, Y.snapF_nb, Y.argP_nb, Y.lentK_v, Y.lentK_r, Y.lentK_t, Y.argP_bv, Y.agB_s, Y.fits_r, Y.fits_v, Y.settle_v, Y.settle_r, Y.settle_t, Y.stT_s, Y.unpA_ok, Y.unpA_ex, Y.unpB_s, Y.unpTo_2, Y.unp2_s, Y.unpTo_5, Y.unpn_s, Y.exA_ok, Y.exA_ex, Y.retA_v, Y.retA_r, Y.retA_ex, Y.iteA_q, Y.iteA_ex, Y.forA_n, Y.forA_s, Y.unlk_nx, Y.unlk_ret, Y.unlk_ex, Y.lockB_eq, Y.lkB2_s, Y.lockOf_eq, Y.lkO2_s, Y.forK_nx, Y.forK_ct, Y.forK_ret, Y.forK_ex, Y.itS_ok, Y.itS_ex, Y.itE_ok, Y.itV_ok, Y.itS2_l, Y.itS2_t, Y.itE2_l, Y.itV2_l, Y.enuO_s, Y.revO_s, Y.itB_s, Y.items_v, Y.items_r, Y.items_t, Y.itT_s, Y.itR_1, Y.itR_2, Y.itR_ex, Y.sbA_v, Y.sbA_r, Y.sbA_ex, Y.sbB_ok, Y.sbC_ok, Y.sbD_s, Y.sbE_s, Y.fdA_v, Y.fdA_r, Y.fdA_ex, Y.fdB_ok, Y.fdD_s, Y.fzA_b, Y.fzB_s, Y.plA_s, Y.plB_s, Y.pg_n, Y.pg_c, Y.pgO_s, Y.ps_n, Y.ps_c, Y.psO_s, Y.kids_obj, Y.kids_lst, Y.kids_tup, Y.kids_dK, Y.kids_dT, Y.wk_obj, Y.wk_lst, Y.wk_tup, Y.wk_dK, Y.wk_dT, Y.setB_q, Y.sB2_s, Y.fnA_nx, Y.fnA_ret, Y.fnA_ex, Y.rnA_nx, Y.rnA_ret, Y.rnA_ex, Y.outP_v, Y.outP_r, Y.gam_call, Y.gam_cls, Y.norm_vl, Y.norm_fr, Y.mk_inj, Y.mk_one, Y.o_add, Y.o_sub, Y.o_mul, Y.o_fdiv, Y.o_mod, Y.o_pow, Y.o_shl, Y.o_shr, Y.o_band, Y.o_bor, Y.o_neg, Y.o_abs, Y.o_lt, Y.o_le, Y.o_gt, Y.o_ge, Y.o_min2, Y.o_max2, Y.bO_s, Y.bN_s, Y.o_eq, Y.o_ne, Y.eq_i, Y.eq_s, Y.eq_b, Y.o_notB, Y.o_isN, Y.o_notN, Y.o_isI, Y.isn_non, Y.isn_bl, Y.isn_int, Y.isn_str, Y.isn_tup, Y.isn_lst, Y.isT_non, Y.isT_bl, Y.isT_int, Y.isT_str, Y.isT_lst, Y.isT_tup, Y.o_adds, Y.o_lens, Y.o_idxs, Y.sO_s, Y.o_slhs, Y.o_slls, Y.o_sl2s, Y.sIx_p, Y.sIx_n0, Y.cut_hi, Y.cut_lo, Y.cut_2, Y.lsK_s, Y.tpK_s, Y.o_sl1t, Y.o_inn, Y.o_nin, Y.in_signM, Y.tru_s, Y.itS2_m, Y.o_lenl, Y.o_lent, Y.o_lend, Y.kid_eq, Y.kdJ_s, Y.kdD_s, Y.kdK_s, Y.kidK_v, Y.kidK_0, Y.kidK_1, Y.kidK_2, Y.kidK_t, Y.kkT_s, Y.ixN_p, Y.ixN_m, Y.o_idxl, Y.o_idxt, Y.isStr_i, Y.isInt_i, Y.isBl_i, Y.get_str, Y.get_int, Y.get_bl, Y.o_tup, Y.o_lst, Y.o_lst0, Y.o_tup0, Y.o_emK, Y.o_emT, Y.o_fld, Y.fO_s, Y.o_list1, Y.o_list1t, Y.o_list1d, Y.o_tup1, Y.o_addl, Y.adL_s, Y.o_addt, Y.adT_s, Y.mt_append, Y.mt_pop0, Y.poO_s, Y.mt_reverse, Y.mt_clear, Y.mt_extend, Y.tm_append, Y.tm_extend, Y.tm_pop0, Y.tm_pop1, Y.tm_remove, Y.tm_reverse, Y.tm_clear, Y.tm_insert, Y.o_find1, Y.o_find2, Y.o_str1, Y.o_int1, Y.o_int1i, Y.o_int1b, Y.range_0, Y.range_1, Y.range_2, Y.range_3, Y.range_4, Y.range_5, Y.sum_ints, Y.okD_int, Y.okD_bl, Y.okD_non, Y.okL_c, Y.okL_n, Y.okD_tup, Y.okD_lst, Y.get_last, Y.get_lastn, Y.drop_last, Y.whB_eq, Y.whA_q, Y.ex_whl, Y.ex_tr, Y.ex_tr0, Y.trA_nx, Y.trA_ct, Y.trA_ret, Y.trA_ex, Y.tr0A_nx, Y.tr0A_ct, Y.tr0A_ret, Y.subX_s, Y.subX_n, Y.suiteR_nx, Y.suiteR_ct, Y.suiteR_ret, Y.goneX_n, Y.goneX_s, Y.bindX_n, Y.bindX_s, Y.hotG_nx, Y.hotG_cls, Y.hotG_call, Y.gam_nx, Y.ev_isX, Y.ev_callX, Y.xOf_h, Y.xoA_s, Y.isXA_s, Y.cxA_s, Y.cxR_ok, Y.dPos_T, Y.dPos_I, Y.dIn_T, Y.dIn_I, Y.dIn_lT, Y.o_idxT, Y.o_idxI, Y.ioK_s, Y.goK_s, Y.goK_n, Y.o_get1T, Y.o_get1I, Y.o_get2T, Y.stO_s, Y.stO_n, Y.sv_T, Y.sv_I, Y.sv_l, Y.sfO_s, Y.sfO_n, Y.sf_o, Y.ppN_s, Y.ppO_s, Y.mt_popT, Y.mt_popI, Y.rmN_s, Y.mt_removeT, Y.mt_removeI, Y.tm_popd, Y.o_muls, Y.o_srtI, Y.o_srtT, Y.o_srdI, Y.o_srdT, Y.o_dict1, Y.dcO_s, Y.nbxL_T, Y.immL_T, Y.place_tl, Y.place_td, Y.place_to, Y.ev_ch, Y.chA_ok, Y.chB_ok, Y.chC_t, Y.chC_f, Y.chD_ok, Y.snoc_get, Y.snoc_set, Y.app_get, Y.app_set, Y.norm_lst, Y.norm_int, Y.norm_str, Y.norm_bl, Y.norm_non, Y.norm_tup, Y.norm_dK, Y.norm_obj, ite_self, Int.toNat_natCast, true_or, or_true, false_or, or_false, Int.cast_ofNat_Int, Int.natCast_one, Int.ofNat_zero, Int.reduceLT, Int.reduceLE, Int.reduceAdd, Int.reduceSub, Int.reduceEq, Int.reduceNe, Int.reduceNeg, List.cons.injEq, and_true, true_and, and_self, List.take_succ_cons, List.take_zero, List.drop_succ_cons, List.drop_zero, reduceCtorEq, not_true_eq_false, not_false_eq_true, eq_self, and_false, false_and, List.getElem?_cons_zero, List.getElem?_cons_succ, List.set_cons_zero, List.set_cons_succ, List.map_cons, List.map_nil, List.all_cons, List.all_nil, List.length_cons, List.length_nil, List.cons_append, List.nil_append, List.append_nil, List.replicate, Nat.sub_self, Bool.and_true, Bool.true_and, Bool.and_false, Bool.false_and, Bool.or_false, Bool.false_or, Bool.or_true, Bool.true_or, Bool.not_true, Bool.not_false, ite_true, ite_false, Bool.false_eq_true, reduceIte, if_true, if_false, decide_true, decide_false, Nat.reduceAdd, Nat.reduceSub, Nat.reduceLT, Nat.reduceLeDiff, Nat.reduceEqDiff, Int.reduceToNat, List.zip_cons_cons, List.zip_nil_left, List.foldl_cons, List.foldl_nil, Nat.reduceBEq, decide_eq_true_eq, Nat.zero_add, Nat.le_refl, Z.isVl, Nat.succ_eq_add_one, $ls,*] at $h:ident)
theorem row_loop (n : Nat) {e0 : Option (Bool × D)} : ∀ (cs : List Int) {row : List Pc} {o2 o3 : Option (Bool × D)}, okRow row → row.length + 2 * cs.length ≤ 900 →
    ∃ row' o2' o3', okRow row' ∧ row'.length ≤ row.length + 2 * cs.length ∧ forGo ((cs.map D.int).map fun d => (false, d)) (Y.forB (gam P (n + 2)) [2] false b_law_row_0) [e0, some (false, .bx 0), o2, o3] [some ⟨1, false, false, .lst (row.map Pc.enc)⟩] = .nx [e0, some (false, .bx 0), o2', o3'] [some ⟨1, false, false, .lst (row'.map Pc.enc)⟩]
  | [], row, o2, o3, hr, _ => ⟨row, o2, o3, hr, by simp, rfl⟩
  | c :: cs, row, o2, o3, hr, hl => by
    have hl' : row.length + 2 * (cs.length + 1) ≤ 900 := hl
    obtain ⟨r1, a3, h1, h2, h3⟩ := row_turn n (c := c) (e0 := e0) (o3 := o3) hr (by omega)
    obtain ⟨r2, b2, b3, g1, g2, g3⟩ := row_loop n (e0 := e0) cs (row := r1) (o2 := some (false, .int c)) (o3 := a3) h1 (by omega)
    refine ⟨r2, b2, b3, g1, by show _ ≤ row.length + 2 * (cs.length + 1); omega, ?_⟩
    rw [List.map_cons, List.map_cons, Y.forGo_c, Y.forB1]
    show Y.forK _ _ (exs _ _ [e0, some (false, .bx 0), some (false, .int c), o3] [some ⟨1, false, false, .lst (row.map Pc.enc)⟩]) = _
    rw [h3]
    exact g3
theorem nbP (p : Pc) : p.enc.noBx = true := by
  cases p with
  | sg c => rfl
  | mk nm b o => rcases o with _ | ⟨s, v⟩ <;> rfl
theorem row_run (n : Nat) (ns : List Int) (hl : ns.length ≤ 63) {l : Bool} : ∃ row : List Pc, okRow row ∧ row.length ≤ 126 ∧ Y.fnr P (n + 3) i_law_row [(l, .lst (ns.map .int))] = .ok (.fr 1 false, .lst (row.map Pc.enc)) := by
  rw [Y.fnr_eq (fi := f_law_row) rfl rfl]
  obtain ⟨row, o2, o3, h1, h2, h3⟩ := row_loop n (e0 := some (l, .lst (ns.map .int))) ns (row := []) (o2 := none) (o3 := none) trivial (by show 0 + 2 * ns.length ≤ 900; omega)
  have nb : noBxL (row.map Pc.enc) = true := Y.nbxL_map nbP
  rw [List.map_nil] at h3
  refine ⟨row, h1, by simp at h2; omega, ?_⟩
  simp_arith (disch := simp only [f_law_row, b_law_row, h3, nb]) only [f_law_row, b_law_row, h3, nb]
theorem shown_lc (n : Nat) {e0 e1 e2 e3 e4 : Option (Bool × D)} {S : Sto} {bo : Option Nat} : ∀ (row : List Pc), (∀ p ∈ row, p.ok') → lcGo ((row.map Pc.enc).map fun d => (false, d)) (Y.lcF (gam P (n + 1)) [e0, e1, e2, e3, e4] S bo 0 false [4] false [] (.call true i_law_shown [(.v 4 false)])) = .ok ((row.map Pc.sh).map Y.sT)
  | [], _ => rfl
  | p :: row, h => by
    have ih := shown_lc n (e0 := e0) (e1 := e1) (e2 := e2) (e3 := e3) (e4 := e4) (S := S) (bo := bo) row (fun x hx => h x (List.mem_cons_of_mem _ hx))
    have sr := shown_run n (h p List.mem_cons_self) (l := false)
    have nb := nbP p
    have mi : p.enc.imm = true := encP_nt
    have e : Y.lcF (gam P (n + 1)) [e0, e1, e2, e3, e4] S bo 0 false [4] false [] (.call true i_law_shown [(.v 4 false)]) (false, p.enc) = .ok (some (Y.sT p.sh)) := by
      unfold Y.sT
      cases bo with
      | none => simp_arith (disch := simp only [sr, nb, mi]) only [sr, nb, mi]
      | some b => simp_arith (disch := simp only [sr, nb, mi]) only [sr, nb, mi]
    show (Y.lcF _ _ _ _ _ _ _ _ _ _ (false, p.enc)).bind _ = _
    rw [e]
    show (lcGo _ _).bind _ = _
    rw [ih]; rfl
theorem joinL_nil : ∀ ts : List (List Nat), TL.joinL [] ts = ts.flatten
  | [] => rfl
  | [p] => by simp [TL.joinL]
  | p :: q :: r => by
    show p ++ ([] ++ TL.joinL [] (q :: r)) = _
    rw [List.nil_append, joinL_nil (q :: r)]; rfl
theorem flat_sh : ∀ row : List Pc, (row.map Pc.sh).flatten = shL row
  | [] => rfl
  | p :: row => by
    show p.sh ++ (row.map Pc.sh).flatten = _
    rw [flat_sh row]; rfl
theorem shL_len : ∀ {row : List Pc}, (∀ p ∈ row, p.ok') → (shL row).length ≤ 80 * row.length
  | [], _ => Nat.le_refl _
  | p :: row, h => by
    have h1 := sh_len (h p List.mem_cons_self)
    have h2 := shL_len (row := row) (fun x hx => h x (List.mem_cons_of_mem _ hx))
    show (p.sh ++ shL row).length ≤ 80 * (row.length + 1)
    rw [List.length_append]; omega
theorem sum_sh : ∀ row : List Pc, (((row.map Pc.sh).map mkS).map (·.length)).sum = (shL row).length
  | [] => rfl
  | p :: row => by
    rw [List.map_cons, List.map_cons, List.map_cons, List.sum_cons, sum_sh row]
    show (mkS p.sh).length + _ = (p.sh ++ shL row).length
    rw [Y.mk_len, List.length_append]
theorem join_op {S : Sto} {k k1 : Kd} {row : List Pc} (h : ∀ p ∈ row, p.ok') (hl : row.length ≤ 1000) : opv .join S [(k, .str (mkS [])), (k1, .lst ((row.map Pc.sh).map Y.sT))] = some (.vl false, .str (mkS (shL row))) := by
  show Option.map _ (opJoin (.str (mkS [])) (.lst ((row.map Pc.sh).map Y.sT))) = _
  have e : opJoin (.str (mkS [])) (.lst ((row.map Pc.sh).map Y.sT)) = some (.str (mkS (shL row))) := by
    show (strsOf ((row.map Pc.sh).map Y.sT)).bind (fun ys => if (ys.map (·.length)).sum + ys.length * (mkS []).length ≤ 16777216 then some (D.str (Txt.join (mkS []) ys)) else none) = _
    rw [Y.strsOf_T]
    have hs := sum_sh row
    have hb := shL_len h
    show (if (((row.map Pc.sh).map mkS).map (·.length)).sum + ((row.map Pc.sh).map mkS).length * (mkS []).length ≤ 16777216 then some (D.str (Txt.join (mkS []) ((row.map Pc.sh).map mkS))) else none) = _
    rw [hs, Y.mk_len, if_pos (by show _ + _ * 0 ≤ _; omega)]
    have hj : Txt.join (mkS []) ((row.map Pc.sh).map mkS) = mkS (TL.joinL [] (row.map Pc.sh)) := SX.join_S [] (row.map Pc.sh)
    rw [hj, joinL_nil, flat_sh]
  rw [e]; rfl
theorem law_turn (n : Nat) {row : List Pc} {m : Nat} {p : Pc} {e0 e4 : Option (Bool × D)} {l : Bool} (hx : row[m]? = some p) (pok : p.ok') :
    exs (gam P (n + 1)) b_law_0 [e0, some (l, .lst (row.map Pc.enc)), some (false, .lst (row.map Pc.enc)), some (false, .int m), e4] [] = .nx [e0, some (l, .lst (row.map Pc.enc)), some (false, .lst (row.map Pc.enc)), some (false, .int m), e4] [] := by
  have g := Y.get_map (f := Pc.enc) hx
  have hm := (List.getElem?_eq_some_iff.mp hx).1
  have hl : (m : Int) < ((row.map Pc.enc).length : Nat) := by rw [List.length_map]; omega
  have es := enc_self pok
  have mi : p.enc.imm = true := encP_nt
  have nb := nbP p
  cases p with
  | sg c =>
    simp only [Pc.enc] at g es
    simp_arith (disch := simp only [b_law_0, g, hl, es]) only [b_law_0, g, hl, es]
  | mk nm b o =>
    have ar := alike_run n (b := b) pok (l := false) (l2 := false)
    rcases o with _ | ⟨s, v⟩
    · simp only [Pc.enc] at g es ar
      simp_arith (disch := simp only [b_law_0, g, hl, es, ar]) only [b_law_0, g, hl, es, ar]
    · simp only [Pc.enc] at g es ar
      simp_arith (disch := simp only [b_law_0, g, hl, es, ar]) only [b_law_0, g, hl, es, ar]
theorem law_loop (n : Nat) {row : List Pc} {e0 e4 : Option (Bool × D)} {l : Bool} (h : ∀ p ∈ row, p.ok') : ∀ (k m : Nat) {o3 : Option (Bool × D)}, m + k ≤ row.length →
    ∃ o3', forGo ((List.range' m k).map fun (i : Nat) => (false, D.int i)) (Y.forB (gam P (n + 1)) [3] false b_law_0) [e0, some (l, .lst (row.map Pc.enc)), some (false, .lst (row.map Pc.enc)), o3, e4] [] = .nx [e0, some (l, .lst (row.map Pc.enc)), some (false, .lst (row.map Pc.enc)), o3', e4] []
  | 0, m, o3, _ => ⟨o3, rfl⟩
  | k + 1, m, o3, hm => by
    obtain ⟨p, hp⟩ : ∃ p, row[m]? = some p := ⟨_, List.getElem?_eq_getElem (by omega)⟩
    have e := law_turn n (e0 := e0) (e4 := e4) (l := l) hp (h p (List.mem_of_getElem? hp))
    obtain ⟨o, ih⟩ := law_loop n (e0 := e0) (e4 := e4) (l := l) h k (m + 1) (o3 := some (false, .int m)) (by omega)
    refine ⟨o, ?_⟩
    rw [List.range'_succ, List.map_cons, Y.forGo_c, Y.forB1]
    show Y.forK _ _ (exs _ _ [e0, some (l, .lst (row.map Pc.enc)), some (false, .lst (row.map Pc.enc)), some (false, .int m), e4] []) = _
    rw [e]
    exact ih
theorem law_run (ns : List Int) (hl : ns.length ≤ 63) : ∃ k S', Z.run P 5 i_law [(false, .lst (ns.map .int))] [] = .ok (k, .bl true, S') := by
  obtain ⟨row, hr, hrl, rr⟩ := row_run 1 ns hl (l := false)
  have ok := okRow_all hr
  have sl := shL_len ok
  have pr := pieces_run 0 (l := false) hr (by omega) (by omega)
  have lc := fun (e0 e1 e2 e3 e4 : Option (Bool × D)) (S : Sto) (bo : Option Nat) => shown_lc 3 (e0 := e0) (e1 := e1) (e2 := e2) (e3 := e3) (e4 := e4) (S := S) (bo := bo) row ok
  have jo := fun (S : Sto) (k k1 : Kd) => join_op (S := S) (k := k) (k1 := k1) ok (by omega)
  have mi : immL (row.map Pc.enc) = true := Y.immL_map fun p => encP_nt
  have nb : noBxL (row.map Pc.enc) = true := Y.nbxL_map nbP
  have lz : ((row.map Pc.sh).map Y.sT).length ≤ 100000 := by rw [List.length_map, List.length_map]; omega
  obtain ⟨o3, lp⟩ := law_loop 3 (row := row) (e0 := some (false, .lst (ns.map .int))) (e4 := none) (l := false) ok row.length 0 (o3 := none) (by omega)
  rw [← List.range_eq_range'] at lp
  refine Y.fnr_run (k := .vl false) ?_
  rw [Y.fnr_eq (fi := f_law) rfl rfl]
  simp_arith (disch := simp only [f_law, b_law, rr, lc, lz, jo, pr, mi, nb, lp, List.length_map]) only [f_law, b_law, rr, lc, lz, jo, pr, mi, nb, lp, List.length_map]
end L17

open PySem PySem.W PySem.Calls PyProof.Rows
theorem PySem.Challenge.cw_tieseek_k17_pieces_of_a_text_holds : PySem.Challenge.rw_tieseek_k17_pieces_of_a_text.Holds := by
  w_on; o_law
  refine HandSHeadRun.head_any (r := OpenLaw.row PySem.Challenge.rw_tieseek_k17_pieces_of_a_text) (q := view (OpenLaw.row PySem.Challenge.rw_tieseek_k17_pieces_of_a_text).prog [27]) (H := Hd.hk) (ob := Hd.ob) (M := 20000) (loose := Hd.names) (d := HandSHeadRun.topDef (OpenLaw.row PySem.Challenge.rw_tieseek_k17_pieces_of_a_text).prog 27) (kwd := []) Hd.ob_eq
    (by kernel_rfl) (fun s => by kernel_rfl) Hd.run (by kernel_rfl) (by kernel_rfl) (by kernel_rfl) (by rfl) (by first | assumption | decide +kernel) (by decide +kernel) ⟨rfl, rfl, rfl, rfl, rfl, by decide +kernel⟩ ?hw ?hc
  case hw => w_witness2
  case hc =>
    exact Z.law_end (l := PySem.Challenge.rw_tieseek_k17_pieces_of_a_text) (T := Hd.T) (f := 13) (n := 5) (x := "script") (fi := Hd.f_law) (N := Hd.N13) (dd := Hd.d13) rfl (by kernel_rfl) (by kernel_rfl) ⟨rfl, by decide, by decide⟩ Hd.tab_ok (fun K => Z.binds_of Hd.bnd K) rfl rfl rfl rfl rfl rfl rfl
      (fun _ _ _ _ _ _ us hl => match us, hl with | [_], _ => rfl) L17.law_run

