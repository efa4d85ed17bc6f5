import Derived.Test.YtggfmlobpmndoaaGreatDoorVsW5
import Derived.Test.YtggfmlobpmndoaaGreatDoorVsQg8
set_option linter.all false
namespace Go.Vs
noncomputable section
theorem i64_word {n:Nat}(h:n<65536):u8 (iConv .u8 (iShr .i64 (n:Int) 8))=yN (n / 256)/\u8 (iConv .u8 (n:Int))=yN (n % 256):=by
 have e:iShr .i64 (n:Int) (8:Nat)=_:=shr64 (n:=n) (s:=8) (by omega)
 refine⟨?_, ?_⟩
 ·rw[show iShr .i64 (n:Int) 8=((n / 2 ^ 8:Nat):Int) from e,conv_u8]
 ·rw[conv_u8];exact UInt8.toNat_inj.1 (by simp [yN])
theorem s_PutW {l:List UInt8}{n:Int}(hl:l.length<=1099511627776) (h0:0<=n) (h1:n<65536):F_s_PutW (l,n)=some (l++wordB n):=by
 obtain⟨k,rfl⟩:=Int.eq_ofNat_of_zero_le h0
 obtain⟨e1,e2⟩:=i64_word (n:=k) (by omega)
 unfold F_s_PutW
 simp only[e1,e2]
 rw[room_ok (by omega),chk_t,room_ok (by simp only[lApp,List.nil_append];omega),chk_t]
 rfl
theorem i_PutW {l:List UInt8}{n:Int}(hl:l.length<=1099511627776) (h0:0<=n) (h1:n<65536):F_i_PutW (l,n)=some (l++wordB n):=by
 obtain⟨k,rfl⟩:=Int.eq_ofNat_of_zero_le h0
 have e:iShr .i64 (k:Int) 8=((k / 2 ^ 8:Nat):Int):=shr64 (n:=k) (s:=8) (by omega)
 have a1:iAnd .i64 ((k / 2 ^ 8:Nat):Int) 255=((k / 2 ^ 8 % 256:Nat):Int):=by
  rw[show (255:Int)=((255:Nat):Int) from rfl,iAnd_s (k:=.i64) (by show _<2 ^ 63;omega) (by show _<2 ^ 63;omega),and_mask (j:=8) rfl]
 have a2:iAnd .i64 (k:Int) 255=((k % 256:Nat):Int):=by
  rw[show (255:Int)=((255:Nat):Int) from rfl,iAnd_s (k:=.i64) (by show _<2 ^ 63;omega) (by show _<2 ^ 63;omega),and_mask (j:=8) rfl]
 unfold F_i_PutW
 simp only[e,a1,a2,conv_u8]
 rw[joined2_ok (by simp only[List.length_cons,List.length_nil];omega),bnd_s]
 rw[show k / 2 ^ 8 % 256=k / 256 by omega]
 rfl
theorem textB_len (s:List UInt8):(textB s).length<=62:=by
 unfold textB;split<;>simp [wordB]<;>omega
theorem lLen_60 {s:List UInt8}(h:¬ s.length<=60):iGt (lLen s) 60=true:=iGt_y (by simp only[lLen_def];omega)
theorem s_PutText {l s:List UInt8}(hl:l.length<=1048576000) (hs:s.length<=1048576000):F_s_PutText (l,s)=some (l++textB s):=by
 unfold F_s_PutText textB
 simp only
 by_cases h:s.length<=60
 ·rw[iGt_n (by simp only[lLen_def];omega),cnd_f,if_pos h,lLen_def,s_PutW (by omega) (by omega) (by omega),bnd_s]
  rw[room_ok (by simp only[List.length_append,wordB,List.length_cons,List.length_nil];omega),chk_t]
  simp only[lApp,List.append_assoc]
 ·rw[lLen_60 h,cnd_t,if_neg h,room_ok (by omega),chk_t,List.append_nil];rfl
theorem i_PutText {l s:List UInt8}(hl:l.length<=1048576000) (hs:s.length<=1048576000):F_i_PutText (l,s)=some (l++textB s):=by
 unfold F_i_PutText textB
 simp only
 by_cases h:s.length<=60
 ·rw[iGt_n (by simp only[lLen_def];omega),cnd_f,if_pos h,lLen_def,i_PutW (by omega) (by omega) (by omega),bnd_s]
  rw[joined2_ok (by simp only[List.length_append,wordB,List.length_cons,List.length_nil];omega),bnd_s,List.append_assoc]
 ·rw[lLen_60 h,cnd_t,if_neg h,joined1_ok (by omega),bnd_s,List.append_nil]
theorem cellB_len (c:Cell):(cellB c).length<=63:=by
 have:=textB_len c.2
 unfold cellB;simp only[List.length_cons];omega
theorem conv_has {t:Int}(h0:0<=t):u8 (iConv .u8 t)=yN t.toNat:=by
 obtain⟨k,rfl⟩:=Int.eq_ofNat_of_zero_le h0
 rw[conv_u8];rfl
def putRow (l:List UInt8) (r:Row):List UInt8:=if rowOk r=true then l++rowB r else l
theorem rowB_len (r:Row):(rowB r).length<=190:=by
 have h1:=textB_len r.1
 have h2:=cellB_len r.2.1
 have h3:=cellB_len r.2.2.1
 unfold rowB
 simp only[List.length_append,List.length_cons]
 split<;>split<;>first | omega | (simp only[List.length_nil];omega)
theorem s_l11Cell {l:List UInt8}{c:Cell}(hl:l.length<=104857600) (hs:c.2.length<=1048576000) (h0:0<=c.1):F_s_l11Cell (l,(c.1,c.2))=some (l++cellB c):=by
 unfold F_s_l11Cell
 simp only[conv_has h0]
 rw[room_ok (by omega),chk_t,s_PutText (by simp only[lApp,List.length_append,List.length_cons,List.length_nil];omega) hs,bnd_s]
 simp only[lApp,List.append_assoc,cellB,List.cons_append,List.nil_append]
theorem flag_s (b:Bool):F_s_l11Bit b=some (yN (flagN b)):=by cases b<;>rfl
theorem flag_i (b:Bool):F_i_flag b=some (yN (flagN b)):=by cases b<;>rfl
theorem rowOk_old {r:Row}(h:rowOk r=true) (h2:r.2.2.2.1≠2):0<=r.2.1.1:=by
 obtain⟨_,a,b,c,d⟩:=rowOk_has h
 have:=rOldOk_some c h2;omega
theorem rowOk_new {r:Row}(h:rowOk r=true) (h2:r.2.2.2.1≠1):0<=r.2.2.1.1:=by
 have d:=(rowOk_has h).2.2.2.2
 have:=rNewOk_some d.1 h2;omega
theorem s_PutRow {l:List UInt8}{r:Row}(hl:l.length<=1048576) (hr:smR 1048576 r):F_s_PutRow (l,r)=some (putRow l r):=by
 obtain⟨key,⟨ot,ob⟩,⟨nt,nb⟩,has,aside⟩:=r
 obtain⟨k1,k2,k3⟩:=hr
 simp only at k1 k2 k3
 have e0:F_s_RowOk (key,((ot,ob),((nt,nb),(has,aside))))=some (rowOk (key,((ot,ob),((nt,nb),(has,aside))))):=s_RowOk (by simp only;omega)
 unfold F_s_PutRow putRow
 simp only[e0,bnd_s,flag_s]
 rw[room_ok (by omega),chk_t]
 cases hk:rowOk (key,((ot,ob),((nt,nb),(has,aside)))) with
 | false=>rw[bNot_f,cnd_t];rfl
 | true =>
 have b1:=rowOk_has hk
 have eo:F_s_l9Old (key,((ot,ob),((nt,nb),(has,aside))))=some (decide (has≠2)):=s_l9Old _ hk
 have en:F_s_l9New (key,((ot,ob),((nt,nb),(has,aside))))=some (decide (has≠1)):=s_l9New _ hk
 have t1:=textB_len key
 have t2:=cellB_len (ot,ob)
 have o0:=rowOk_old hk
 have n0:=rowOk_new hk
 simp only at b1 o0 n0
 rw[bNot_t,cnd_f,show lApp [] l=l from rfl,s_PutText (by omega) (by omega),bnd_s,room_ok (by simp only[List.length_append];omega),chk_t]
 simp only[eo,en,bnd_s,conv_has (show 0<=has by omega),if_true,rowB,lApp]
 have step:∀ (q:List UInt8) (c:Cell) (k:Int),q.length<=2097152->c.2.length<=1048576->(has≠k->0<=c.1)->cnd (decide (has≠k)) (bnd (F_s_l11Cell (q,(c.1,c.2))) (fun z5=>(some (.inl z5)))) (some (.inl q))=some (.inl (q++if has=k then [] else cellB c):List UInt8 ⊕ List UInt8):=by
  intro q c k hq hc h0
  by_cases h:has=k
  ·rw[if_pos h,decide_eq_false (by simpa using h),cnd_f,List.append_nil]
  ·rw[if_neg h,decide_eq_true h,cnd_t,s_l11Cell (by omega) (by omega) (h0 h)];rfl
 rw[step _ (ot,ob) 2 (by simp only[List.length_append,List.length_cons,List.length_nil];omega) k2 o0,joinX_l]
 have t3:(if has=2 then [] else cellB (ot,ob)).length<=63:=by split<;>first | omega | (simp only[List.length_nil];omega)
 rw[step _ (nt,nb) 1 (by simp only[List.length_append,List.length_cons,List.length_nil];omega) k3 n0,joinX_l]
 simp only[List.append_assoc,List.cons_append,List.nil_append]
theorem i_PutRow {l:List UInt8}{r:Row}(hl:l.length<=1048576) (hr:smR 1048576 r):F_i_PutRow (l,r)=some (putRow l r):=by
 obtain⟨key,⟨ot,ob⟩,⟨nt,nb⟩,has,aside⟩:=r
 obtain⟨k1,k2,k3⟩:=hr
 simp only at k1 k2 k3
 have e0:F_i_RowOk (key,((ot,ob),((nt,nb),(has,aside))))=some (rowOk (key,((ot,ob),((nt,nb),(has,aside))))):=i_RowOk (by simp only;omega)
 unfold F_i_PutRow putRow
 simp only[joined1_ok (show l.length<=140737488355328 by omega),e0,bnd_s,flag_i]
 cases hk:rowOk (key,((ot,ob),((nt,nb),(has,aside)))) with
 | false=>rw[bNot_f,cnd_t];rfl
 | true =>
 have b1:=rowOk_has hk
 have t1:=textB_len key
 have t2:=cellB_len (ot,ob)
 have o0:=rowOk_old hk
 have n0:=rowOk_new hk
 simp only at b1 o0 n0
 rw[bNot_t,cnd_f,i_PutText (by omega) (by omega),bnd_s,room_ok (by simp only[List.length_append];omega),chk_t]
 simp only[bnd_s,conv_has (show 0<=has by omega),if_true,rowB,lApp]
 have step:∀ (q:List UInt8) (c:Cell) (k:Int),q.length<=2097152->c.2.length<=1048576->(has≠k->0<=c.1)->cnd (iNe has k) (chk (room (q.length+1) 1) (bnd (F_i_PutText (q++[u8 (iConv .u8 c.1)],c.2)) (fun z5=>(some (.inl z5))))) (some (.inl q))=some (.inl (q++if has=k then [] else cellB c):List UInt8 ⊕ List UInt8):=by
  intro q c k hq hc h0
  by_cases h:has=k
  ·rw[if_pos h,h,iNe_r,cnd_f,List.append_nil]
  ·rw[if_neg h,iNe_y h,cnd_t,room_ok (by omega),chk_t,i_PutText (by simp only[List.length_append,List.length_cons,List.length_nil];omega) (by omega),conv_has (h0 h)]
   simp only[bnd_s,cellB,List.append_assoc,List.cons_append,List.nil_append]
 rw[step _ (ot,ob) 2 (by simp only[List.length_append,List.length_cons,List.length_nil];omega) k2 o0,joinX_l]
 have t3:(if has=2 then [] else cellB (ot,ob)).length<=63:=by split<;>first | omega | (simp only[List.length_nil];omega)
 rw[step _ (nt,nb) 1 (by simp only[List.length_append,List.length_cons,List.length_nil];omega) k3 n0,joinX_l]
 simp only[List.append_assoc,List.cons_append,List.nil_append]
end
end Go.Vs
