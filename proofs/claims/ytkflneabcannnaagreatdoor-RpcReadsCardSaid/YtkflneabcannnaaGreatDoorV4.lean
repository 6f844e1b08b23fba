/- Go functions: what they come to, and that they do. Printed by a program of the session (gen). -/
import Derived.Test.YtkflneabcannnaaGreatDoorVF
import Derived.Test.YtkflneabcannnaaGreatDoorV2
import Derived.Test.YtkflneabcannnaaGreatDoorV3
import Derived.Test.YtkflneabcannnaaGreatDoorKConv
import Derived.Test.YtkflneabcannnaaGreatDoorKShar2
import Derived.Test.YtkflneabcannnaaGreatDoorKTight2
set_option linter.unusedVariables false
set_option linter.unusedSimpArgs false
set_option maxHeartbeats 8000000
set_option maxRecDepth 100000
namespace Go.Proofs.YtkflneabcannnaaGreatDoor.G
open Go Go.KK
open PO EO IntKind Sum Tryz

noncomputable def f_record_Same_1 (a0:T_api_Record):Option (List Int):=
 (some [a0.Kind,a0.Broker,a0.Epoch,a0.Topic,a0.Part,a0.Leader,a0.Client,a0.Serial,a0.Code])
def f_record_Same_1_post (a0:T_api_Record) (b c d e:Value):(List Int)→Value→IM→HL→Prop:=
 fun(a:(List Int)) (v:Value) (M':IM) (H':HL)=>(.agg #[(.int .i64 (rd a (0:Int))),(.int .i64 (rd a (1:Int))),(.int .i64 (rd a (2:Int))),(.int .i64 (rd a (3:Int))),(.int .i64 (rd a (4:Int))),(.int .i64 (rd a (5:Int))),(.int .i64 (rd a (6:Int))),(.int .i64 (rd a (7:Int))),(.int .i64 (rd a (8:Int)))])=v∧H'=[]
theorem f_record_Same_1_ok (a0:T_api_Record) (M:IM) (a b c d:Value) (f:RS (Kd.int .i64) M a a0.Ids) (g:RS (Kd.int .i64) M b a0.Isr) (i:RS (Kd.int .i64) M c a0.Add) (j:RS (Kd.int .i64) M d a0.Drop) (res:(List Int)) (h:f_record_Same_1 a0=some res):
 Tri prog 119 #[(a58_ a0 a b c d)] M [] (f_record_Same_1_post a0 a b c d res):=by
 unfold f_record_Same_1 at h
 refine Te func119 Z Z ?_
 intro F ρ hρ
 refine Sr (We (box (cs:=(l58 a0 a b c d).toArray) (congrArg Value.cells (asE (a58_ a0 a b c d) (hρ 0)))) Z ?_)
 rintro _ _ _ - ⟨rfl,e,rfl,rfl⟩
 refine We (Al ze164 Z) Z ?_
 rintro _ _ _ - ⟨rfl,k,rfl,rfl⟩
 refine Ns (qu (pt e 0) (Fa fo58_0 Z Z) (qu (Iv a0.Kind) (Lb 1 pl3 Z Z Z) (qu (pt e 1) (Fa fo58_1 Z Z) (qu (Iv a0.Broker) (Lb 1 pl3 Z Z Z) (qu (pt e 2) (Fa fo58_2 Z Z) (qu (Iv a0.Epoch) (Lb 1 pl3 Z Z Z) (qu (pt e 3) (Fa fo58_3 Z Z) (qu (Iv a0.Topic) (Lb 1 pl3 Z Z Z) (qu (pt e 4) (Fa fo58_4 Z Z) (qu (Iv a0.Part) (Lb 1 pl3 Z Z Z) (qu (pt e 5) (Fa fo58_5 Z Z) ?_)))))))))))
 refine qu (Iv a0.Leader) (Lb 1 pl3 Z Z Z) (qu (pt e 6) (Fa fo58_6 Z Z) (qu (Iv a0.Client) (Lb 1 pl3 Z Z Z) (qu (pt e 7) (Fa fo58_7 Z Z) (qu (Iv a0.Serial) (Lb 1 pl3 Z Z Z) (qu (pt e 8) (Fa fo58_8 Z Z) (qu (Iv a0.Code) (Lb 1 pl3 Z Z Z) (qu (.agg #[(Iv a0.Kind),(Iv a0.Broker),(Iv a0.Epoch),(Iv a0.Topic),(Iv a0.Part),(Iv a0.Leader),(Iv a0.Client),(Iv a0.Serial),(Iv a0.Code)]) (buildAL (cl:=[(Iv a0.Kind),(Iv a0.Broker),(Iv a0.Epoch),(Iv a0.Topic),(Iv a0.Part),(Iv a0.Leader),(Iv a0.Client),(Iv a0.Serial),(Iv a0.Code)]) ze164 underlying164 sz3 (Pc (Iv a0.Kind) Z Z (Pc (Iv a0.Broker) Z Z (Pc (Iv a0.Epoch) Z Z (Pc (Iv a0.Topic) Z Z (Pc (Iv a0.Part) Z Z (Pc (Iv a0.Leader) Z Z (Pc (Iv a0.Client) Z Z (Pc (Iv a0.Serial) Z Z (Pc (Iv a0.Code) Z Z Pz))))))))) Z) (We (Sg (v:=(.agg #[(Iv a0.Kind),(Iv a0.Broker),(Iv a0.Epoch),(Iv a0.Topic),(Iv a0.Part),(Iv a0.Leader),(Iv a0.Client),(Iv a0.Serial),(Iv a0.Code)])) (vl:=[(Iv a0.Kind),(Iv a0.Broker),(Iv a0.Epoch),(Iv a0.Topic),(Iv a0.Part),(Iv a0.Leader),(Iv a0.Client),(Iv a0.Serial),(Iv a0.Code)]) (arr':=[(Iv a0.Kind),(Iv a0.Broker),(Iv a0.Epoch),(Iv a0.Topic),(Iv a0.Part),(Iv a0.Leader),(Iv a0.Client),(Iv a0.Serial),(Iv a0.Code)]) Z sz164 Z Z (onb Z) Z Z (by kernel_rfl)) Z ?_))))))))
 rintro _ _ _ - ⟨rfl,rfl⟩
 exact Nt (Cr (Qa (Dr (Rd h [] (fun _ hs=>hs.drop) (resultsL1 Z (Rc (cs:=[(Iv a0.Kind),(Iv a0.Broker),(Iv a0.Epoch),(Iv a0.Topic),(Iv a0.Part),(Iv a0.Leader),(Iv a0.Client),(Iv a0.Serial),(Iv a0.Code)]) 0 ag164 sz164 Z Z Z)) lr ⟨Z,Z⟩))))
noncomputable def f_record_Same_2 (a0:T_api_Record):Option (List ByteArray):=
 (some [a0.Name,a0.Key,a0.Value,a0.Rack])
def f_record_Same_2_post (a0:T_api_Record) (b c d e:Value):(List ByteArray)→Value→IM→HL→Prop:=
 fun(a:(List ByteArray)) (v:Value) (M':IM) (H':HL)=>(.agg #[(.string (rd a (0:Int))),(.string (rd a (1:Int))),(.string (rd a (2:Int))),(.string (rd a (3:Int)))])=v∧H'=[]
theorem f_record_Same_2_ok (a0:T_api_Record) (M:IM) (a b c d:Value) (f:RS (Kd.int .i64) M a a0.Ids) (g:RS (Kd.int .i64) M b a0.Isr) (i:RS (Kd.int .i64) M c a0.Add) (j:RS (Kd.int .i64) M d a0.Drop) (res:(List ByteArray)) (h:f_record_Same_2 a0=some res):
 Tri prog 120 #[(a58_ a0 a b c d)] M [] (f_record_Same_2_post a0 a b c d res):=by
 unfold f_record_Same_2 at h
 refine Te func120 Z Z ?_
 intro F ρ hρ
 refine Sr (We (box (cs:=(l58 a0 a b c d).toArray) (congrArg Value.cells (asE (a58_ a0 a b c d) (hρ 0)))) Z ?_)
 rintro _ _ _ - ⟨rfl,e,rfl,rfl⟩
 refine We (Al ze166 Z) Z ?_
 rintro _ _ _ - ⟨rfl,k,rfl,rfl⟩
 refine Ns (qu (pt e 10) (Fa fo58_10 Z Z) (qu (Sv a0.Name) (Lb 1 pl9 Z Z Z) (qu (pt e 11) (Fa fo58_11 Z Z) (qu (Sv a0.Key) (Lb 1 pl9 Z Z Z) (qu (pt e 12) (Fa fo58_12 Z Z) (qu (Sv a0.Value) (Lb 1 pl9 Z Z Z) (qu (pt e 13) (Fa fo58_13 Z Z) (qu (Sv a0.Rack) (Lb 1 pl9 Z Z Z) (qu (.agg #[(Sv a0.Name),(Sv a0.Key),(Sv a0.Value),(Sv a0.Rack)]) (buildAL (cl:=[(Sv a0.Name),(Sv a0.Key),(Sv a0.Value),(Sv a0.Rack)]) ze166 underlying166 sz9 (Pc (Sv a0.Name) Z Z (Pc (Sv a0.Key) Z Z (Pc (Sv a0.Value) Z Z (Pc (Sv a0.Rack) Z Z Pz)))) Z) (We (Sg (v:=(.agg #[(Sv a0.Name),(Sv a0.Key),(Sv a0.Value),(Sv a0.Rack)])) (vl:=[(Sv a0.Name),(Sv a0.Key),(Sv a0.Value),(Sv a0.Rack)]) (arr':=[(Sv a0.Name),(Sv a0.Key),(Sv a0.Value),(Sv a0.Rack)]) Z sz166 Z Z (onb Z) Z Z Z) Z ?_))))))))))
 rintro _ _ _ - ⟨rfl,rfl⟩
 exact Nt (Cr (Qa (Dr (Rd h [] (fun _ hs=>hs.drop) (resultsL1 Z (Rc (cs:=[(Sv a0.Name),(Sv a0.Key),(Sv a0.Value),(Sv a0.Rack)]) 0 ag166 sz166 Z Z Z)) lr ⟨Z,Z⟩))))
noncomputable def f_record_Same (a0:T_api_Record) (a1:T_api_Record):Option Bool:=
 ((((f_slices_Equal_int_int a0.Ids a1.Ids).bind fun e=>(if(!e)=true then(some true)else((f_slices_Equal_int_int a0.Isr a1.Isr).bind fun f=>(if(!f)=true then(some true)else((f_slices_Equal_int_int a0.Add a1.Add).bind fun g=>(if(!g)=true then(some true)else((f_slices_Equal_int_int a0.Drop a1.Drop).bind fun i=>(some (!i))))))))):Option Bool).bind fun j=>(if j=true then(some false)else((((f_record_Same_1 a0).bind fun a=>((f_record_Same_1 a1).bind fun b=>(if(andL [decide ((rd a (0:Int))=(rd b (0:Int))),decide ((rd a (1:Int))=(rd b (1:Int))),decide ((rd a (2:Int))=(rd b (2:Int))),decide ((rd a (3:Int))=(rd b (3:Int))),decide ((rd a (4:Int))=(rd b (4:Int))),decide ((rd a (5:Int))=(rd b (5:Int))),decide ((rd a (6:Int))=(rd b (6:Int))),decide ((rd a (7:Int))=(rd b (7:Int))),decide ((rd a (8:Int))=(rd b (8:Int)))])=true then((f_record_Same_2 a0).bind fun c=>((f_record_Same_2 a1).bind fun d=>(if(andL [(rd c (0:Int))==(rd d (0:Int)),(rd c (1:Int))==(rd d (1:Int)),(rd c (2:Int))==(rd d (2:Int)),(rd c (3:Int))==(rd d (3:Int))])=true then(some (a0.Flag==a1.Flag))else(some false))))else(some false)))):Option Bool).bind fun k=>(some k))))
def f_record_Same_post (a0:T_api_Record) (a1:T_api_Record) (a b c d e f g i:Value):Bool→Value→IM→HL→Prop:=
 fun(j:Bool) (v:Value) (M':IM) (H':HL)=>(.bool j)=v∧H'=[]
theorem f_record_Same_ok (a0:T_api_Record) (a1:T_api_Record) (M:IM) (f g i j b c d e:Value) (x:RS (Kd.int .i64) M f a0.Ids) (m:RS (Kd.int .i64) M g a0.Isr) (n:RS (Kd.int .i64) M i a0.Add) (o:RS (Kd.int .i64) M j a0.Drop) (y:RS (Kd.int .i64) M b a1.Ids) (p:RS (Kd.int .i64) M c a1.Isr) (q:RS (Kd.int .i64) M d a1.Add) (r:RS (Kd.int .i64) M e a1.Drop) (res:Bool) (h:f_record_Same a0 a1=some res):
 Tri prog 79 #[(a58_ a0 f g i j),(a58_ a1 b c d e)] M [] (f_record_Same_post a0 a1 f g i j b c d e res):=by
 unfold f_record_Same at h
 refine Te func79 Z Z ?_
 intro F ρ hρ
 refine Sr (We (box (cs:=(l58 a0 f g i j).toArray) (congrArg Value.cells (asE (a58_ a0 f g i j) (hρ 0)))) Z ?_)
 rintro _ _ _ - ⟨rfl,J,rfl,rfl⟩
 refine We (box (cs:=(l58 a1 b c d e).toArray) (congrArg Value.cells (asE (a58_ a1 b c d e) (hρ 1)))) Z ?_
 rintro _ _ _ - ⟨rfl,K,rfl,rfl⟩
 refine qa (Bv false) (Nt (Cs ?_))
 obtain ⟨U,a5,h⟩:=bnd h
 refine Jf (fun(U:Bool) ρ' M' H'=>M.le M'∧[(K, .cells (l58 a1 b c d e).toArray 58 (0,0))]::[(J, .cells (l58 a0 f g i j).toArray 58 (0,0))]::F=H'∧ρ' 2=(pt J 0)∧ρ' 3=(pt K 0)∧ρ' 36=(Bv U)) U ?_ ?_
 have h:=a5
 refine Cg (qu (pt J 14) (Fa fo58_14 Z Z) (qu f (Lb 1 pl56 Z Z Z) (qu (pt K 14) (Fa fo58_14 Z Z) (qu b (Lb 0 pl56 Z Z Z) ?_))))
 obtain ⟨V,a6,h⟩:=bnd h
 refine We (Ca co118 (f_slices_Equal_int_int_ok a0.Ids a1.Ids _ _ _ x y V a6) (args2 Z Z)) Z ?_
 rintro _ b7 _ G ⟨_,⟨rfl,rfl⟩,rfl⟩
 refine WL.a0 (qu (Bv (!V)) (PO.not Z) (qm (Bv (!V)) ?_))
 rcases Bi h with⟨u,h⟩ |⟨u,h⟩
 iterate 6 refine Of 13 Z Z u Z ?_
 refine qu (Bv true) (Pt Z u Z) (qm (Bv true) ?_)
 iterate 6 refine Of 21 Z Z Z Z ?_
 refine qu (Bv true) (Pt Z Z Z) (qm (Bv true) ?_)
 iterate 6 refine Of 29 Z Z Z Z ?_
 refine qu (Bv true) (Pt Z Z Z) (Wz ?_)
 obtain rfl:=oi h
 exact Tj ⟨G,Z,Z,Z,Z⟩
 refine qo 13 u (pt J 15) (Fa fo58_15 Z Z) (qo 13 u g (Lb 1 pl56 Z Z Z) (qo 13 u (pt K 15) (Fa fo58_15 Z Z) (qo 13 u c (Lb 0 pl56 Z Z Z) (On 13 Z Z u ?_))))
 obtain ⟨P,a7,h⟩:=bnd h
 have m:=m.mono G
 have p:=p.mono G
 refine We (Ca co118 (f_slices_Equal_int_int_ok a0.Isr a1.Isr _ _ _ m p P a7) (args2 Z Z)) Z ?_
 rintro _ b8 _ W ⟨_,⟨rfl,rfl⟩,rfl⟩
 have Q:=G.trans W
 refine WL.a0 (qo 13 u (Bv (!P)) (PO.not Z) (qu (Bv (!P)) (Pf Z u Z) (qm (Bv (!P)) ?_)))
 rcases Bi h with⟨v,h⟩ |⟨v,h⟩
 iterate 6 refine Of 21 Z Z v Z ?_
 refine qu (Bv true) (Pt Z v Z) (qm (Bv true) ?_)
 iterate 6 refine Of 29 Z Z Z Z ?_
 refine qu (Bv true) (Pt Z Z Z) (Wz ?_)
 obtain rfl:=oi h
 exact Tj ⟨Q,Z,Z,Z,Z⟩
 refine qo 21 v (pt J 16) (Fa fo58_16 Z Z) (qo 21 v i (Lb 1 pl56 Z Z Z) (qo 21 v (pt K 16) (Fa fo58_16 Z Z) (qo 21 v d (Lb 0 pl56 Z Z Z) (On 21 Z Z v ?_))))
 obtain ⟨R,a8,h⟩:=bnd h
 have n:=n.mono Q
 have q:=q.mono Q
 refine We (Ca co118 (f_slices_Equal_int_int_ok a0.Add a1.Add _ _ _ n q R a8) (args2 Z Z)) Z ?_
 rintro _ b9 _ X ⟨_,⟨rfl,rfl⟩,rfl⟩
 have S:=Q.trans X
 refine WL.a0 (qo 21 v (Bv (!R)) (PO.not Z) (qu (Bv (!R)) (Pf Z v Z) (qm (Bv (!R)) ?_)))
 rcases Bi h with⟨w,h⟩ |⟨w,h⟩
 iterate 6 refine Of 29 Z Z w Z ?_
 refine qu (Bv true) (Pt Z w Z) (Wz ?_)
 obtain rfl:=oi h
 exact Tj ⟨S,Z,Z,Z,Z⟩
 refine qo 29 w (pt J 17) (Fa fo58_17 Z Z) (qo 29 w j (Lb 1 pl56 Z Z Z) (qo 29 w (pt K 17) (Fa fo58_17 Z Z) (qo 29 w e (Lb 0 pl56 Z Z Z) (On 29 Z Z w ?_))))
 obtain ⟨Y,a9,h⟩:=bnd h
 have o:=o.mono S
 have r:=r.mono S
 refine We (Ca co118 (f_slices_Equal_int_int_ok a0.Drop a1.Drop _ _ _ o r Y a9) (args2 Z Z)) Z ?_
 rintro _ c0 _ a2 ⟨_,⟨rfl,rfl⟩,rfl⟩
 refine WL.a0 (qo 29 w (Bv (!Y)) (PO.not Z) (qu (Bv (!Y)) (Pf Z w Z) (Wz ?_)))
 obtain rfl:=oi h
 exact Tj ⟨(S.trans a2),Z,Z,Z,Z⟩
 rintro c1 b6 c2 ⟨k,rfl,I,z,N⟩
 refine Ch h N (fun b0 h=> ?_) (fun b0 h=> ?_)
 exact Sr (qa (Bv false) (Nt (Cr (Tr (Dr (Dr (Rf h [] Z (Rs Z Z) k ⟨Z,Z⟩)))))))
 refine Ck (Tc (Sr (qa (.func (.func 119) #[] #[]) (Ns (qa (.func (.func 120) #[] #[]) (Nt ?_))))))
 obtain ⟨a3,b1,h⟩:=bnd h
 refine Jf (fun(a3:Bool) ρ' M' H'=>b6.le M'∧[(K, .cells (l58 a1 b c d e).toArray 58 (0,0))]::[(J, .cells (l58 a0 f g i j).toArray 58 (0,0))]::F=H'∧ρ' 4=(Bv a3)) a3 ?_ ?_
 have h:=b1
 refine WC.draw [0,0,3,0,0,31,63,127,255,255,1023,255,255,8191,16383,32767,65535,131071,262143,131071,655359,2097151,4194303,8388607] (.pure 0 (.pure 1 (.pure 3 (.pure 4 (.alt 2 (.alt 5 (.pure 6 (.pure 7 (.pure 8 (.pure 9 (.pure 11 (.pure 12 (.alt 10 (.alt 13 (.pure 14 (.pure 15 (.pure 16 (.pure 17 (.pure 18 (.pure 19 (.pure 20 (.pure 21 (.pure 22 (.pure 23 .done)))))))))) .none) .none))))))) .none) .none))))) mixed (by kernel_rfl) (qt (.func (.func 119) #[] #[]) Z (Mv Z) (qt (a58_ a0 f g i j) Z (La (cs:=(l58 a0 f g i j)) 1 ag58 sz58 I Z Z) (qt (.func (.func 119) #[] #[]) Z (Mv Z) (qt (a58_ a1 b c d e) Z (La (cs:=(l58 a1 b c d e)) 0 ag58 sz58 z Z Z) ?_))))
 obtain ⟨s,b2,h⟩:=bnd h
 have x:=x.mono k
 have m:=m.mono k
 have n:=n.mono k
 have o:=o.mono k
 refine Ta Z (callV0 (first:=#[]) (cap:=#[]) co119 Z (f_record_Same_1_ok a0 _ _ _ _ _ x m n o s b2) (argsV1 Z Z)) Z ?_ ?_
 rintro _ c3 _ D ⟨_,⟨rfl,rfl⟩,rfl⟩
 refine⟨(Ss Z (La (cs:=(l58 a1 b c d e)) 0 ag58 sz58 z Z Z) Z (Ss Z (Mv Z) Z (Sl Z))), ?_⟩
 refine WT.a0 ?_
 obtain ⟨t,b3,h⟩:=bnd h
 have y:=y.mono (k.trans D)
 have p:=p.mono (k.trans D)
 have q:=q.mono (k.trans D)
 have r:=r.mono (k.trans D)
 refine Ta Z (callV0 (first:=#[]) (cap:=#[]) co119 Z (f_record_Same_1_ok a1 _ _ _ _ _ y p q r t b3) (argsV1 Z Z)) Z ?_ ?_
 rintro _ c4 _ E ⟨_,⟨rfl,rfl⟩,rfl⟩
 have L:=D.trans E
 refine⟨(Sl Z), ?_⟩
 refine WT.a0 (qt (Bv (andL [decide ((rd s (0:Int))=(rd t (0:Int))),decide ((rd s (1:Int))=(rd t (1:Int))),decide ((rd s (2:Int))=(rd t (2:Int))),decide ((rd s (3:Int))=(rd t (3:Int))),decide ((rd s (4:Int))=(rd t (4:Int))),decide ((rd s (5:Int))=(rd t (5:Int))),decide ((rd s (6:Int))=(rd t (6:Int))),decide ((rd s (7:Int))=(rd t (7:Int))),decide ((rd s (8:Int))=(rd t (8:Int)))])) Z (eqAgg eg164 Z Z (run_equal_array underlying164 pl3 sz3 (EqIs.cons Z Z (EqC.int underlying3) (EqIs.cons Z Z (EqC.int underlying3) (EqIs.cons Z Z (EqC.int underlying3) (EqIs.cons Z Z (EqC.int underlying3) (EqIs.cons Z Z (EqC.int underlying3) (EqIs.cons Z Z (EqC.int underlying3) (EqIs.cons Z Z (EqC.int underlying3) (EqIs.cons Z Z (EqC.int underlying3) (EqIs.cons Z Z (EqC.int underlying3) EqIs.nil))))))))))) (qt (Bv (andL [decide ((rd s (0:Int))=(rd t (0:Int))),decide ((rd s (1:Int))=(rd t (1:Int))),decide ((rd s (2:Int))=(rd t (2:Int))),decide ((rd s (3:Int))=(rd t (3:Int))),decide ((rd s (4:Int))=(rd t (4:Int))),decide ((rd s (5:Int))=(rd t (5:Int))),decide ((rd s (6:Int))=(rd t (6:Int))),decide ((rd s (7:Int))=(rd t (7:Int))),decide ((rd s (8:Int))=(rd t (8:Int)))])) Z (Mv Z) ?_))
 rcases Bi h with⟨a,h⟩ |⟨a,h⟩
 refine Tn (.func (.func 120) #[] #[]) 44 Z Z Z a (Mv Z) Z (Tn (a58_ a0 f g i j) 44 Z Z Z a (La (cs:=(l58 a0 f g i j)) 1 ag58 sz58 I Z Z) Z (Tn (.func (.func 120) #[] #[]) 44 Z Z Z a (Mv Z) Z (Tn (a58_ a1 b c d e) 44 Z Z Z a (La (cs:=(l58 a1 b c d e)) 0 ag58 sz58 z Z Z) Z ?_)))
 obtain ⟨A,b4,h⟩:=bnd h
 have x:=x.mono L
 have m:=m.mono L
 have n:=n.mono L
 have o:=o.mono L
 refine WT.altOn 44 Z Z Z a (callV0 (first:=#[]) (cap:=#[]) co120 Z (f_record_Same_2_ok a0 _ _ _ _ _ x m n o A b4) (argsV1 Z Z)) Z ?_ ?_
 rintro _ c5 _ B ⟨_,⟨rfl,rfl⟩,rfl⟩
 refine⟨(St (StabA.on 44 Z Z Z a (La (cs:=(l58 a1 b c d e)) 0 ag58 sz58 z Z Z) Z) (St (StabA.on 44 Z Z Z a (Mv Z) Z) (Sl Z))), ?_⟩
 refine WT.a0 ?_
 obtain ⟨C,b5,h⟩:=bnd h
 have y:=y.mono (E.trans B)
 have p:=p.mono (E.trans B)
 have q:=q.mono (E.trans B)
 have r:=r.mono (E.trans B)
 refine WT.altOn 44 Z Z Z a (callV0 (first:=#[]) (cap:=#[]) co120 Z (f_record_Same_2_ok a1 _ _ _ _ _ y p q r C b5) (argsV1 Z Z)) Z ?_ ?_
 rintro _ c6 _ O ⟨_,⟨rfl,rfl⟩,rfl⟩
 refine⟨(Sl Z), ?_⟩
 refine WT.a0 (Tn (Bv (andL [(rd A (0:Int))==(rd C (0:Int)),(rd A (1:Int))==(rd C (1:Int)),(rd A (2:Int))==(rd C (2:Int)),(rd A (3:Int))==(rd C (3:Int))])) 44 Z Z Z a (eqAgg eg166 Z Z (run_equal_array underlying166 pl9 sz9 (EqIs.cons Z Z (EqC.str underlying9) (EqIs.cons Z Z (EqC.str underlying9) (EqIs.cons Z Z (EqC.str underlying9) (EqIs.cons Z Z (EqC.str underlying9) EqIs.nil)))))) Z (qt (Bv (andL [(rd A (0:Int))==(rd C (0:Int)),(rd A (1:Int))==(rd C (1:Int)),(rd A (2:Int))==(rd C (2:Int)),(rd A (3:Int))==(rd C (3:Int))])) Z (Pt Z a Z) (qt (Bv (andL [(rd A (0:Int))==(rd C (0:Int)),(rd A (1:Int))==(rd C (1:Int)),(rd A (2:Int))==(rd C (2:Int)),(rd A (3:Int))==(rd C (3:Int))])) Z (Mv Z) ?_)))
 rcases Bi h with⟨l,h⟩ |⟨l,h⟩
 refine Tn (pt J 9) 53 Z Z Z l (Fa fo58_9 I Z) Z (Tn (Bv a0.Flag) 53 Z Z Z l (Lb 1 pl4 Z Z Z) Z (Tn (pt K 9) 53 Z Z Z l (Fa fo58_9 z Z) Z (Tn (Bv a1.Flag) 53 Z Z Z l (Lb 0 pl4 Z Z Z) Z (Tn (Bv (a0.Flag==a1.Flag)) 53 Z Z Z l (beql underlying4 Z Z) Z (qt (Bv (a0.Flag==a1.Flag)) Z (Pt Z l Z) (qt (Bv (a0.Flag==a1.Flag)) Z (Ag Z) (Ti ?_)))))))
 obtain rfl:=oi h
 exact Tj ⟨((L.trans B).trans O),Z,Z⟩
 refine Tf 53 Z Z Z l Z (Tf 53 Z Z Z l Z (Tf 53 Z Z Z l Z (Tf 53 Z Z Z l Z (Tf 53 Z Z Z l Z (qt (Bv false) Z (Pf Z l Z) (qt (Bv false) Z (Ag Z) (Ti ?_)))))))
 obtain rfl:=oi h
 exact Tj ⟨((L.trans B).trans O),Z,Z⟩
 exact Tz
 exact Tz
 refine Tf 44 Z Z Z a Z (Tf 44 Z Z Z a Z (Tf 44 Z Z Z a Z (Tf 44 Z Z Z a Z (Tg 44 Z Z Z a Z ⟨(St (Sf 44 Z Z Z a Z) (St (Sf 44 Z Z Z a Z) (Sl Z))), ?_⟩ ?_))))
 refine Tg 44 Z Z Z a Z ⟨(Sl Z), ?_⟩ ?_
 refine Tf 44 Z Z Z a Z (qt (Bv false) Z (Pf Z a Z) (qt (Bv false) Z (Mv Z) (Tf 53 Z Z Z Z Z (Tf 53 Z Z Z Z Z (Tf 53 Z Z Z Z Z (Tf 53 Z Z Z Z Z (Tf 53 Z Z Z Z Z (qt (Bv false) Z (Pf Z Z Z) (qt (Bv false) Z (Ag Z) (Ti ?_))))))))))
 obtain rfl:=oi h
 exact Tj ⟨L,Z,Z⟩
 exact Tz
 exact Tz
 exact Tz
 exact Tz
 rintro c7 c8 c9 ⟨a4,rfl,T⟩
 exact Cr (Dr (Dr (Rf h [] Z (Rs Z T) (k.trans a4) ⟨Z,Z⟩)))
noncomputable def f_slices_EqualFunc_api_Record_api_Record_api_Record_api_Record_79_l0 (a0:(List T_api_Record)) (a1:(List T_api_Record)) (s_:Int):Option (Int⊕(Unit⊕Unit)):=
 match s_ with
 |a=>
 (if(decide (a<(a0.length:Int)))=true then(grd (0≤a∧a<a0.length) (grd (0≤a∧a<a1.length) ((f_record_Same (rd a0 a) (rd a1 a)).bind fun b=>(if(!b)=true then(some (inr (inr ())))else(some (inl (i64.wrap (a+(1:Int)))))))))else(some (inr (inl ()))))
noncomputable def f_slices_EqualFunc_api_Record_api_Record_api_Record_api_Record_79 (a0:(List T_api_Record)) (a1:(List T_api_Record)):Option Bool:=
 (if(decide ((a0.length:Int)≠(a1.length:Int)))=true then(some false)else((((iter (f_slices_EqualFunc_api_Record_api_Record_api_Record_api_Record_79_l0 a0 a1) (0:Int)).bind (Sum.elim (fun _=>(some (inl ()))) (fun _=>(((some false)).bind fun r=>some (inr r))))):Option (Unit⊕Bool)).bind (Sum.elim (fun _=>(some true)) some)))
def f_slices_EqualFunc_api_Record_api_Record_api_Record_api_Record_79_post (a0:(List T_api_Record)) (a1:(List T_api_Record)) (b c:Value):Bool→Value→IM→HL→Prop:=
 fun(a:Bool) (v:Value) (M':IM) (H':HL)=>(.bool a)=v∧H'=[]
theorem f_slices_EqualFunc_api_Record_api_Record_api_Record_api_Record_79_ok (a0:(List T_api_Record)) (a1:(List T_api_Record)) (M:IM) (N O:Value) (P:RS kd_api_Record M N a0) (Y:RS kd_api_Record M O a1) (res:Bool) (h:f_slices_EqualFunc_api_Record_api_Record_api_Record_api_Record_79 a0 a1=some res):
 Tri prog 78 #[N,O,(.func (.func 79) #[] #[])] M [] (f_slices_EqualFunc_api_Record_api_Record_api_Record_api_Record_79_post a0 a1 N O res):=by
 unfold f_slices_EqualFunc_api_Record_api_Record_api_Record_api_Record_79 at h
 refine Te func78 Z Z ?_
 intro F ρ hρ
 refine Sr (qa (Bv false) (Nt (Cs (Sr (qM N (hρ 0) (qu (Iv (a0.length:Int)) (lenS underlying53 Z P.len) (qM O (hρ 1) (qu (Iv (a1.length:Int)) (lenS underlying53 Z Y.len) (qu (Bv (decide ((a0.length:Int)≠(a1.length:Int)))) (neq Z Z) (Nt (Ch h Z (fun Q h=> ?_) (fun Q h=> ?_))))))))))))
 exact Sr (qa (Bv false) (Nt (Cr (Tr (Rf h [] Z (Rs Z Z) lr ⟨Z,Z⟩)))))
 refine Ck (Tc ?_)
 obtain ⟨a2,R,h⟩:=bnd h
 refine WC.joinE (fun(_:Unit) ρ' M' H'=>M.le M'∧F=H') a2 ?_ ?_
 have S:=h
 have h:=R
 refine Sr (qM N (hρ 0) (qu (Iv (a0.length:Int)) (lenS underlying53 Z P.len) (qm (Iv 0) (Nt (Bk ?_)))))
 obtain ⟨a7,T,E⟩:=bnd h
 clear h
 refine WC.loop T (fun(a:Int) ρ' M' H'=>M.le M'∧F=H'∧ρ' 1=O∧ρ' 2=(.func (.func 79) #[] #[])∧ρ' 15=N∧ρ' 16=(Iv (a0.length:Int))∧ρ' 17=(Iv a)) ?_ ?_
 exact⟨lr,Z,(hρ 1),(hρ 2),Z,Z,Z⟩
 rintro a a8 a9 b0 b1 h ⟨l,rfl,z,A,m,o,k⟩
 unfold f_slices_EqualFunc_api_Record_api_Record_api_Record_api_Record_79_l0 at h
 refine Sr (qu (Bv (decide (a<(a0.length:Int)))) (lss k o) (Nt (Cs (Ch h Z (fun U h=> ?_) (fun U h=> ?_)))))
 refine Ck (Tc (Cs (Bk (Sr (qM (Iv a) k ?_)))))
 obtain ⟨B,h⟩:=grd_i h
 have P:=P.mono l
 obtain ⟨a3,a5,G,I,hhas31⟩:=P.at B.1 B.2 (by decide)
 obtain ⟨b,c,d,e,rfl,p,q,r,s⟩:=kd_api_Record_open I
 refine qu (.pointer (some a3)) (indexAddr (n:=a0.length) underlying53 sz58 m k B.1 B.2 G) (qu (a58_ (rd a0 a) b c d e) (loadMA (cs:=(l58 (rd a0 a) b c d e)) ag58 sz58 Z hhas31) (We (Al ze58 Z) Z ?_))
 rintro _ _ _ - ⟨rfl,b2,rfl,rfl⟩
 refine qa (Iv a) (We (Sg (v:=(a58_ (rd a0 a) b c d e)) (vl:=(l58 (rd a0 a) b c d e)) (arr':=(l58 (rd a0 a) b c d e)) Z sz58 Z Z (onesOf (Oc Z (Oc Z (Oc Z (Oc Z (Oc Z (Oc Z (Oc Z (Oc Z (Oc Z (Oc Z (Oc Z (Oc Z (Oc Z (Oc Z (Oc (RS.one p) (Oc (RS.one q) (Oc (RS.one r) (Oc (RS.one s) Oz))))))))))))))))))) Z Z (by kernel_rfl)) Z ?_)
 rintro _ _ _ - ⟨rfl,rfl⟩
 refine Ns (qM O z (qm (Iv a) ?_))
 obtain ⟨C,h⟩:=grd_i h
 have Y:=Y.mono l
 obtain ⟨a4,a6,J,K,hhas39⟩:=Y.at C.1 C.2 (by decide)
 obtain ⟨f,g,i,j,rfl,t,u,w,x⟩:=kd_api_Record_open K
 refine qu (.pointer (some a4)) (indexAddr (n:=a1.length) underlying53 sz58 Z Z C.1 C.2 J) (qu (a58_ (rd a1 a) f g i j) (loadMA (cs:=(l58 (rd a1 a) f g i j)) ag58 sz58 Z hhas39) (We (Al ze58 Z) Z ?_))
 rintro _ _ _ - ⟨rfl,b3,rfl,rfl⟩
 refine We (Sg (v:=(a58_ (rd a1 a) f g i j)) (vl:=(l58 (rd a1 a) f g i j)) (arr':=(l58 (rd a1 a) f g i j)) Z sz58 Z Z (onesOf (Oc Z (Oc Z (Oc Z (Oc Z (Oc Z (Oc Z (Oc Z (Oc Z (Oc Z (Oc Z (Oc Z (Oc Z (Oc Z (Oc Z (Oc (RS.one t) (Oc (RS.one u) (Oc (RS.one w) (Oc (RS.one x) Oz))))))))))))))))))) Z Z (by kernel_rfl)) Z ?_
 rintro _ _ _ - ⟨rfl,rfl⟩
 refine Ns (qM (.func (.func 79) #[] #[]) A (qu (a58_ (rd a0 a) b c d e) (La (cs:=(l58 (rd a0 a) b c d e)) 1 ag58 sz58 Z Z Z) (qu (a58_ (rd a1 a) f g i j) (La (cs:=(l58 (rd a1 a) f g i j)) 0 ag58 sz58 Z Z Z) ?_)))
 obtain ⟨V,W,h⟩:=bnd h
 refine We (callV0 (first:=#[]) (cap:=#[]) co79 Z (f_record_Same_ok (rd a0 a) (rd a1 a) _ _ _ _ _ _ _ _ _ p q r s t u w x V W) (argsV2 Z Z Z)) Z ?_
 rintro _ b4 _ D ⟨_,⟨rfl,rfl⟩,rfl⟩
 refine WL.a0 (qu (Bv (!V)) (PO.not Z) (Nt (Ch h Z (fun X h=> ?_) (fun X h=> ?_))))
 refine Sr (qa (Bv false) (Nt (Cr (Br (Tr (WQ.leaveR (inr ()) (oi h).symm (fun y=> ?_)))))))
 subst y
 have h:=(elimR E)
 refine Br (Tr ?_)
 have h:=KK.early h S
 exact Dr (Dr (Rf h [] Z (Rs Z Z) (l.trans D) ⟨Z,Z⟩))
 exact Ck (Bn (Tc (Cg (qu (Iv (i64.wrap (a+1))) (add k Z) (qm (Iv (i64.wrap (a+1))) (Wz (Dr (Dr (WQ.again (i64.wrap (a+1)) (oi h).symm ⟨(l.trans D),Z,z,A,m,o,Z⟩)))))))))
 refine WC.exit (WQ.thenE (WQ.leaveE (inl ()) (oi h).symm (fun y=> ?_)))
 subst y
 have h:=elimL E
 exact WQ.blockH (WQ.thenFE h ⟨l,Z⟩)
 rintro _ b5 b6 b7 rfl ⟨L,rfl⟩
 have h:=(Sum.elim_inl _ _ _).symm.trans h
 exact Sr (qa (Bv true) (Nt (Cr (Rf h [] Z (Rs Z Z) L ⟨Z,Z⟩))))
noncomputable def f_batch_Same (a0:T_api_Batch) (a1:T_api_Batch):Option Bool:=
 (((if(decide (a0.Term=a1.Term))=true then(if(decide (a0.Base=a1.Base))=true then((f_slices_EqualFunc_api_Record_api_Record_api_Record_api_Record_79 a0.Records a1.Records).bind fun a=>(some a))else(some false))else(some false)):Option Bool).bind fun b=>(some b))
def f_batch_Same_post (a0:T_api_Batch) (a1:T_api_Batch) (a b:Value):Bool→Value→IM→HL→Prop:=
 fun(c:Bool) (v:Value) (M':IM) (H':HL)=>(.bool c)=v∧H'=[]
theorem f_batch_Same_ok (a0:T_api_Batch) (a1:T_api_Batch) (M:IM) (c d:Value) (m:RS kd_api_Record M c a0.Records) (n:RS kd_api_Record M d a1.Records) (res:Bool) (h:f_batch_Same a0 a1=some res):
 Tri prog 53 #[(a55_ a0 c),(a55_ a1 d)] M [] (f_batch_Same_post a0 a1 c d res):=by
 unfold f_batch_Same at h
 refine Te func53 Z Z ?_
 intro F ρ hρ
 refine Sr (We (box (cs:=(l55 a0 c).toArray) (congrArg Value.cells (asE (a55_ a0 c) (hρ 0)))) Z ?_)
 rintro _ _ _ - ⟨rfl,e,rfl,rfl⟩
 refine We (box (cs:=(l55 a1 d).toArray) (congrArg Value.cells (asE (a55_ a1 d) (hρ 1)))) Z ?_
 rintro _ _ _ - ⟨rfl,f,rfl,rfl⟩
 refine qa (Bv false) (Nt ?_)
 obtain ⟨i,o,h⟩:=bnd h
 refine Jf (fun(i:Bool) ρ' M' H'=>M.le M'∧[(f, .cells (l55 a1 d).toArray 55 (0,0))]::[(e, .cells (l55 a0 c).toArray 55 (0,0))]::F=H'∧ρ' 4=(Bv i)) i ?_ ?_
 have h:=o
 refine Cg (qu (pt e 0) (Fa fo55_0 Z Z) (qu (Iv a0.Term) (Lb 1 pl3 Z Z Z) (qu (pt f 0) (Fa fo55_0 Z Z) (qu (Iv a1.Term) (Lb 0 pl3 Z Z Z) (qu (Bv (decide (a0.Term=a1.Term))) (eql Z Z) (qm (Bv (decide (a0.Term=a1.Term))) ?_))))))
 rcases Bi h with⟨a,h⟩ |⟨a,h⟩
 refine qo 10 a (pt e 1) (Fa fo55_1 Z Z) (qo 10 a (Iv a0.Base) (Lb 1 pl3 Z Z Z) (qo 10 a (pt f 1) (Fa fo55_1 Z Z) (qo 10 a (Iv a1.Base) (Lb 0 pl3 Z Z Z) (qo 10 a (Bv (decide (a0.Base=a1.Base))) (eql Z Z) (qu (Bv (decide (a0.Base=a1.Base))) (Pt Z a Z) (qm (Bv (decide (a0.Base=a1.Base))) ?_))))))
 rcases Bi h with⟨b,h⟩ |⟨b,h⟩
 refine qo 17 b (pt e 2) (Fa fo55_2 Z Z) (qo 17 b c (Lb 1 pl53 Z Z Z) (qo 17 b (pt f 2) (Fa fo55_2 Z Z) (qo 17 b d (Lb 0 pl53 Z Z Z) (On 17 Z Z b ?_))))
 obtain ⟨j,p,h⟩:=bnd h
 refine We (Ca co78 (f_slices_EqualFunc_api_Record_api_Record_api_Record_api_Record_79_ok a0.Records a1.Records _ _ _ m n j p) (args3 Z Z Z)) Z ?_
 rintro _ q _ k ⟨_,⟨rfl,rfl⟩,rfl⟩
 refine WL.a0 (qu (Bv j) (Pt Z b Z) (qa (Bv j) (Wz ?_)))
 obtain rfl:=oi h
 exact Tj ⟨k,Z,Z⟩
 iterate 5 refine Of 17 Z Z b Z ?_
 refine qu (Bv false) (Pf Z b Z) (qa (Bv false) (Wz ?_))
 obtain rfl:=oi h
 exact Tj ⟨lr,Z,Z⟩
 iterate 5 refine Of 10 Z Z a Z ?_
 refine qu (Bv false) (Pf Z a Z) (qm (Bv false) ?_)
 iterate 5 refine Of 17 Z Z Z Z ?_
 refine qu (Bv false) (Pf Z Z Z) (qa (Bv false) (Wz ?_))
 obtain rfl:=oi h
 exact Tj ⟨lr,Z,Z⟩
 rintro r s t ⟨l,rfl,g⟩
 exact Cr (Dr (Dr (Rf h [] Z (Rs Z g) l ⟨Z,Z⟩)))
noncomputable def f_slices_EqualFunc_api_Batch_api_Batch_api_Batch_api_Batch_53_l0 (a0:(List T_api_Batch)) (a1:(List T_api_Batch)) (s_:Int):Option (Int⊕(Unit⊕Unit)):=
 match s_ with
 |a=>
 (if(decide (a<(a0.length:Int)))=true then(grd (0≤a∧a<a0.length) (grd (0≤a∧a<a1.length) ((f_batch_Same (rd a0 a) (rd a1 a)).bind fun b=>(if(!b)=true then(some (inr (inr ())))else(some (inl (i64.wrap (a+(1:Int)))))))))else(some (inr (inl ()))))
noncomputable def f_slices_EqualFunc_api_Batch_api_Batch_api_Batch_api_Batch_53 (a0:(List T_api_Batch)) (a1:(List T_api_Batch)):Option Bool:=
 (if(decide ((a0.length:Int)≠(a1.length:Int)))=true then(some false)else((((iter (f_slices_EqualFunc_api_Batch_api_Batch_api_Batch_api_Batch_53_l0 a0 a1) (0:Int)).bind (Sum.elim (fun _=>(some (inl ()))) (fun _=>(((some false)).bind fun r=>some (inr r))))):Option (Unit⊕Bool)).bind (Sum.elim (fun _=>(some true)) some)))
def f_slices_EqualFunc_api_Batch_api_Batch_api_Batch_api_Batch_53_post (a0:(List T_api_Batch)) (a1:(List T_api_Batch)) (b c:Value):Bool→Value→IM→HL→Prop:=
 fun(a:Bool) (v:Value) (M':IM) (H':HL)=>(.bool a)=v∧H'=[]
theorem f_slices_EqualFunc_api_Batch_api_Batch_api_Batch_api_Batch_53_ok (a0:(List T_api_Batch)) (a1:(List T_api_Batch)) (M:IM) (y z:Value) (A:RS kd_api_Batch M y a0) (L:RS kd_api_Batch M z a1) (res:Bool) (h:f_slices_EqualFunc_api_Batch_api_Batch_api_Batch_api_Batch_53 a0 a1=some res):
 Tri prog 52 #[y,z,(.func (.func 53) #[] #[])] M [] (f_slices_EqualFunc_api_Batch_api_Batch_api_Batch_api_Batch_53_post a0 a1 y z res):=by
 unfold f_slices_EqualFunc_api_Batch_api_Batch_api_Batch_api_Batch_53 at h
 refine Te func52 Z Z ?_
 intro F ρ hρ
 refine Sr (qa (Bv false) (Nt (Cs (Sr (qM y (hρ 0) (qu (Iv (a0.length:Int)) (lenS underlying22 Z A.len) (qM z (hρ 1) (qu (Iv (a1.length:Int)) (lenS underlying22 Z L.len) (qu (Bv (decide ((a0.length:Int)≠(a1.length:Int)))) (neq Z Z) (Nt (Ch h Z (fun B h=> ?_) (fun B h=> ?_))))))))))))
 exact Sr (qa (Bv false) (Nt (Cr (Tr (Rf h [] Z (Rs Z Z) lr ⟨Z,Z⟩)))))
 refine Ck (Tc ?_)
 obtain ⟨N,C,h⟩:=bnd h
 refine WC.joinE (fun(_:Unit) ρ' M' H'=>M.le M'∧F=H') N ?_ ?_
 have D:=h
 have h:=C
 refine Sr (qM y (hρ 0) (qu (Iv (a0.length:Int)) (lenS underlying22 Z A.len) (qm (Iv 0) (Nt (Bk ?_)))))
 obtain ⟨S,E,r⟩:=bnd h
 clear h
 refine WC.loop E (fun(a:Int) ρ' M' H'=>M.le M'∧F=H'∧ρ' 1=z∧ρ' 2=(.func (.func 53) #[] #[])∧ρ' 15=y∧ρ' 16=(Iv (a0.length:Int))∧ρ' 17=(Iv a)) ?_ ?_
 exact⟨lr,Z,(hρ 1),(hρ 2),Z,Z,Z⟩
 rintro a T U V W h ⟨e,rfl,j,k,f,g,d⟩
 unfold f_slices_EqualFunc_api_Batch_api_Batch_api_Batch_api_Batch_53_l0 at h
 refine Sr (qu (Bv (decide (a<(a0.length:Int)))) (lss d g) (Nt (Cs (Ch h Z (fun G h=> ?_) (fun G h=> ?_)))))
 refine Ck (Tc (Cs (Bk (Sr (qM (Iv a) d ?_)))))
 obtain ⟨l,h⟩:=grd_i h
 have A:=A.mono e
 obtain ⟨O,Q,s,t,hhas31⟩:=A.at l.1 l.2 (by decide)
 obtain ⟨b,rfl,m⟩:=kd_api_Batch_open t
 refine qu (.pointer (some O)) (indexAddr (n:=a0.length) underlying22 sz55 f d l.1 l.2 s) (qu (a55_ (rd a0 a) b) (loadMA (cs:=(l55 (rd a0 a) b)) ag55 sz55 Z hhas31) (We (Al ze55 Z) Z ?_))
 rintro _ _ _ - ⟨rfl,X,rfl,rfl⟩
 refine qa (Iv a) (We (Sg (v:=(a55_ (rd a0 a) b)) (vl:=(l55 (rd a0 a) b)) (arr':=(l55 (rd a0 a) b)) Z sz55 Z Z (onesOf (Oc Z (Oc Z (Oc (RS.one m) Oz)))) Z Z Z) Z ?_)
 rintro _ _ _ - ⟨rfl,rfl⟩
 refine Ns (qM z j (qm (Iv a) ?_))
 obtain ⟨o,h⟩:=grd_i h
 have L:=L.mono e
 obtain ⟨P,R,u,w,hhas39⟩:=L.at o.1 o.2 (by decide)
 obtain ⟨c,rfl,p⟩:=kd_api_Batch_open w
 refine qu (.pointer (some P)) (indexAddr (n:=a1.length) underlying22 sz55 Z Z o.1 o.2 u) (qu (a55_ (rd a1 a) c) (loadMA (cs:=(l55 (rd a1 a) c)) ag55 sz55 Z hhas39) (We (Al ze55 Z) Z ?_))
 rintro _ _ _ - ⟨rfl,Y,rfl,rfl⟩
 refine We (Sg (v:=(a55_ (rd a1 a) c)) (vl:=(l55 (rd a1 a) c)) (arr':=(l55 (rd a1 a) c)) Z sz55 Z Z (onesOf (Oc Z (Oc Z (Oc (RS.one p) Oz)))) Z Z Z) Z ?_
 rintro _ _ _ - ⟨rfl,rfl⟩
 refine Ns (qM (.func (.func 53) #[] #[]) k (qu (a55_ (rd a0 a) b) (La (cs:=(l55 (rd a0 a) b)) 1 ag55 sz55 Z Z Z) (qu (a55_ (rd a1 a) c) (La (cs:=(l55 (rd a1 a) c)) 0 ag55 sz55 Z Z Z) ?_)))
 obtain ⟨I,J,h⟩:=bnd h
 refine We (callV0 (first:=#[]) (cap:=#[]) co53 Z (f_batch_Same_ok (rd a0 a) (rd a1 a) _ _ _ m p I J) (argsV2 Z Z Z)) Z ?_
 rintro _ a2 _ q ⟨_,⟨rfl,rfl⟩,rfl⟩
 refine WL.a0 (qu (Bv (!I)) (PO.not Z) (Nt (Ch h Z (fun K h=> ?_) (fun K h=> ?_))))
 refine Sr (qa (Bv false) (Nt (Cr (Br (Tr (WQ.leaveR (inr ()) (oi h).symm (fun i=> ?_)))))))
 subst i
 have h:=(elimR r)
 refine Br (Tr ?_)
 have h:=KK.early h D
 exact Dr (Dr (Rf h [] Z (Rs Z Z) (e.trans q) ⟨Z,Z⟩))
 exact Ck (Bn (Tc (Cg (qu (Iv (i64.wrap (a+1))) (add d Z) (qm (Iv (i64.wrap (a+1))) (Wz (Dr (Dr (WQ.again (i64.wrap (a+1)) (oi h).symm ⟨(e.trans q),Z,j,k,f,g,Z⟩)))))))))
 refine WC.exit (WQ.thenE (WQ.leaveE (inl ()) (oi h).symm (fun i=> ?_)))
 subst i
 have h:=elimL r
 exact WQ.blockH (WQ.thenFE h ⟨e,Z⟩)
 rintro _ a3 a4 a5 rfl ⟨x,rfl⟩
 have h:=(Sum.elim_inl _ _ _).symm.trans h
 exact Sr (qa (Bv true) (Nt (Cr (Rf h [] Z (Rs Z Z) x ⟨Z,Z⟩))))
noncomputable def f_rpc_Same (a0:T_api_Rpc) (a1:T_api_Rpc):Option Bool:=
 ((((f_rpc_Same_1 a0).bind fun a=>((f_rpc_Same_1 a1).bind fun b=>(if(andL [decide ((rd a (0:Int))=(rd b (0:Int))),decide ((rd a (1:Int))=(rd b (1:Int))),decide ((rd a (2:Int))=(rd b (2:Int))),decide ((rd a (3:Int))=(rd b (3:Int))),decide ((rd a (4:Int))=(rd b (4:Int))),decide ((rd a (5:Int))=(rd b (5:Int))),decide ((rd a (6:Int))=(rd b (6:Int))),decide ((rd a (7:Int))=(rd b (7:Int))),decide ((rd a (8:Int))=(rd b (8:Int))),decide ((rd a (9:Int))=(rd b (9:Int))),decide ((rd a (10:Int))=(rd b (10:Int)))])=true then(if(a0.Pre==a1.Pre)=true then(if(a0.Ok==a1.Ok)=true then((f_slices_Equal_byte_byte a0.Data a1.Data).bind fun c=>(if c=true then((f_slices_EqualFunc_api_Batch_api_Batch_api_Batch_api_Batch_53 a0.Batches a1.Batches).bind fun d=>(some d))else(some false)))else(some false))else(some false))else(some false)))):Option Bool).bind fun e=>(some e))
def f_rpc_Same_post (a0:T_api_Rpc) (a1:T_api_Rpc) (a b c d:Value):Bool→Value→IM→HL→Prop:=
 fun(e:Bool) (v:Value) (M':IM) (H':HL)=>(.bool e)=v∧H'=[]
theorem f_rpc_Same_ok (a0:T_api_Rpc) (a1:T_api_Rpc) (M:IM) (j k c d:Value) (n:RS kd_api_Batch M j a0.Batches) (o:RS (Kd.int .u8) M k a0.Data) (l:RS kd_api_Batch M c a1.Batches) (m:RS (Kd.int .u8) M d a1.Data) (res:Bool) (h:f_rpc_Same a0 a1=some res):
 Tri prog 17 #[(a25_ a0 j k),(a25_ a1 c d)] M [] (f_rpc_Same_post a0 a1 j k c d res):=by
 unfold f_rpc_Same at h
 refine Te func17 Z Z ?_
 intro F ρ hρ
 refine Sr (We (box (cs:=(l25 a0 j k).toArray) (congrArg Value.cells (asE (a25_ a0 j k) (hρ 0)))) Z ?_)
 rintro _ _ _ - ⟨rfl,t,rfl,rfl⟩
 refine We (box (cs:=(l25 a1 c d).toArray) (congrArg Value.cells (asE (a25_ a1 c d) (hρ 1)))) Z ?_
 rintro _ _ _ - ⟨rfl,u,rfl,rfl⟩
 refine qa (Bv false) (Ns (qa (.func (.func 50) #[] #[]) (Nt ?_)))
 obtain ⟨w,B,h⟩:=bnd h
 refine Jf (fun(w:Bool) ρ' M' H'=>M.le M'∧[(u, .cells (l25 a1 c d).toArray 25 (0,0))]::[(t, .cells (l25 a0 j k).toArray 25 (0,0))]::F=H'∧ρ' 4=(Bv w)) w ?_ ?_
 have h:=B
 refine WC.draw [0,0,3,0,0,31,63,127,255,511,255,1279,4095,8191,16383,32767,65535,32767,163839,524287,1048575,2097151,4194303,8388607,4194303,20971519,67108863,134217727,268435455,536870911,1073741823,536870911,2684354559,8589934591,17179869183,34359738367] (.pure 0 (.pure 1 (.pure 3 (.pure 4 (.alt 2 (.alt 5 (.pure 6 (.pure 7 (.pure 8 (.pure 9 (.pure 10 (.pure 11 (.pure 12 (.pure 13 (.pure 14 (.pure 15 (.pure 16 (.pure 17 (.pure 18 (.pure 19 (.pure 20 (.pure 21 (.pure 22 (.pure 23 (.pure 24 (.pure 25 (.alt 26 (.pure 27 (.pure 28 (.pure 29 (.pure 30 (.pure 31 (.pure 32 (.alt 33 (.pure 34 (.pure 35 .done)) .none))))))) .none))))))))))))))))))))) .none) .none))))) mixed (by kernel_rfl) (qt (.func (.func 50) #[] #[]) Z (Mv Z) (qt (a25_ a0 j k) Z (La (cs:=(l25 a0 j k)) 1 ag25 sz25 Z Z Z) (qt (.func (.func 50) #[] #[]) Z (Mv Z) (qt (a25_ a1 c d) Z (La (cs:=(l25 a1 c d)) 0 ag25 sz25 Z Z Z) ?_))))
 obtain ⟨a,C,h⟩:=bnd h
 refine Ta Z (callV0 (first:=#[]) (cap:=#[]) co50 Z (f_rpc_Same_1_ok a0 _ _ _ n o a C) (argsV1 Z Z)) Z ?_ ?_
 rintro _ I _ q ⟨_,⟨rfl,rfl⟩,rfl⟩
 refine⟨(Ss Z (La (cs:=(l25 a1 c d)) 0 ag25 sz25 Z Z Z) Z (Ss Z (Mv Z) Z (Sl Z))), ?_⟩
 refine WT.a0 ?_
 obtain ⟨b,D,h⟩:=bnd h
 have l:=l.mono q
 have m:=m.mono q
 refine Ta Z (callV0 (first:=#[]) (cap:=#[]) co50 Z (f_rpc_Same_1_ok a1 _ _ _ l m b D) (argsV1 Z Z)) Z ?_ ?_
 rintro _ J _ r ⟨_,⟨rfl,rfl⟩,rfl⟩
 have s:=q.trans r
 refine⟨(Sl Z), ?_⟩
 refine WT.a0 (qt (Bv (andL [decide ((rd a (0:Int))=(rd b (0:Int))),decide ((rd a (1:Int))=(rd b (1:Int))),decide ((rd a (2:Int))=(rd b (2:Int))),decide ((rd a (3:Int))=(rd b (3:Int))),decide ((rd a (4:Int))=(rd b (4:Int))),decide ((rd a (5:Int))=(rd b (5:Int))),decide ((rd a (6:Int))=(rd b (6:Int))),decide ((rd a (7:Int))=(rd b (7:Int))),decide ((rd a (8:Int))=(rd b (8:Int))),decide ((rd a (9:Int))=(rd b (9:Int))),decide ((rd a (10:Int))=(rd b (10:Int)))])) Z (eqAgg eg85 Z Z (run_equal_array underlying85 pl3 sz3 (EqIs.cons Z Z (EqC.int underlying3) (EqIs.cons Z Z (EqC.int underlying3) (EqIs.cons Z Z (EqC.int underlying3) (EqIs.cons Z Z (EqC.int underlying3) (EqIs.cons Z Z (EqC.int underlying3) (EqIs.cons Z Z (EqC.int underlying3) (EqIs.cons Z Z (EqC.int underlying3) (EqIs.cons Z Z (EqC.int underlying3) (EqIs.cons Z Z (EqC.int underlying3) (EqIs.cons Z Z (EqC.int underlying3) (EqIs.cons Z Z (EqC.int underlying3) EqIs.nil))))))))))))) (qt (Bv (andL [decide ((rd a (0:Int))=(rd b (0:Int))),decide ((rd a (1:Int))=(rd b (1:Int))),decide ((rd a (2:Int))=(rd b (2:Int))),decide ((rd a (3:Int))=(rd b (3:Int))),decide ((rd a (4:Int))=(rd b (4:Int))),decide ((rd a (5:Int))=(rd b (5:Int))),decide ((rd a (6:Int))=(rd b (6:Int))),decide ((rd a (7:Int))=(rd b (7:Int))),decide ((rd a (8:Int))=(rd b (8:Int))),decide ((rd a (9:Int))=(rd b (9:Int))),decide ((rd a (10:Int))=(rd b (10:Int)))])) Z (Mv Z) ?_))
 rcases Bi h with⟨e,h⟩ |⟨e,h⟩
 refine Tn (pt t 4) 13 Z Z Z e (Fa fo25_4 Z Z) Z (Tn (Bv a0.Pre) 13 Z Z Z e (Lb 1 pl4 Z Z Z) Z (Tn (pt u 4) 13 Z Z Z e (Fa fo25_4 Z Z) Z (Tn (Bv a1.Pre) 13 Z Z Z e (Lb 0 pl4 Z Z Z) Z (Tn (Bv (a0.Pre==a1.Pre)) 13 Z Z Z e (beql underlying4 Z Z) Z (qt (Bv (a0.Pre==a1.Pre)) Z (Pt Z e Z) (qt (Bv (a0.Pre==a1.Pre)) Z (Mv Z) ?_))))))
 rcases Bi h with⟨f,h⟩ |⟨f,h⟩
 refine Tn (pt t 5) 20 Z Z Z f (Fa fo25_5 Z Z) Z (Tn (Bv a0.Ok) 20 Z Z Z f (Lb 1 pl4 Z Z Z) Z (Tn (pt u 5) 20 Z Z Z f (Fa fo25_5 Z Z) Z (Tn (Bv a1.Ok) 20 Z Z Z f (Lb 0 pl4 Z Z Z) Z (Tn (Bv (a0.Ok==a1.Ok)) 20 Z Z Z f (beql underlying4 Z Z) Z (qt (Bv (a0.Ok==a1.Ok)) Z (Pt Z f Z) (qt (Bv (a0.Ok==a1.Ok)) Z (Mv Z) ?_))))))
 rcases Bi h with⟨g,h⟩ |⟨g,h⟩
 refine Tn (pt t 14) 27 Z Z Z g (Fa fo25_14 Z Z) Z (Tn k 27 Z Z Z g (Lb 1 pl23 Z Z Z) Z (Tn (pt u 14) 27 Z Z Z g (Fa fo25_14 Z Z) Z (Tn d 27 Z Z Z g (Lb 0 pl23 Z Z Z) Z ?_)))
 obtain ⟨x,E,h⟩:=bnd h
 have o:=o.mono s
 have m:=m.mono r
 refine WT.altOn 27 Z Z Z g (Ca co51 (f_slices_Equal_byte_byte_ok a0.Data a1.Data _ _ _ o m x E) (args2 Z Z)) Z ?_ ?_
 rintro _ K _ p ⟨_,⟨rfl,rfl⟩,rfl⟩
 refine⟨(Sl Z), ?_⟩
 refine WT.a0 (qt (Bv x) Z (Pt Z g Z) (qt (Bv x) Z (Mv Z) ?_))
 rcases Bi h with⟨i,h⟩ |⟨i,h⟩
 refine Tn (pt t 11) 34 Z Z Z i (Fa fo25_11 Z Z) Z (Tn j 34 Z Z Z i (Lb 1 pl22 Z Z Z) Z (Tn (pt u 11) 34 Z Z Z i (Fa fo25_11 Z Z) Z (Tn c 34 Z Z Z i (Lb 0 pl22 Z Z Z) Z ?_)))
 obtain ⟨y,G,h⟩:=bnd h
 have n:=n.mono (s.trans p)
 have l:=l.mono (r.trans p)
 refine WT.altOn 34 Z Z Z i (Ca co52 (f_slices_EqualFunc_api_Batch_api_Batch_api_Batch_api_Batch_53_ok a0.Batches a1.Batches _ _ _ n l y G) (args3 Z Z Z)) Z ?_ ?_
 rintro _ L _ z ⟨_,⟨rfl,rfl⟩,rfl⟩
 refine⟨(Sl Z), ?_⟩
 refine WT.a0 (qt (Bv y) Z (Pt Z i Z) (qt (Bv y) Z (Ag Z) (Ti ?_)))
 obtain rfl:=oi h
 exact Tj ⟨((s.trans p).trans z),Z,Z⟩
 exact Tz
 refine Tf 34 Z Z Z i Z (Tf 34 Z Z Z i Z (Tf 34 Z Z Z i Z (Tf 34 Z Z Z i Z (Tg 34 Z Z Z i Z ⟨(Sl Z), ?_⟩ ?_))))
 refine qt (Bv false) Z (Pf Z i Z) (qt (Bv false) Z (Ag Z) (Ti ?_))
 obtain rfl:=oi h
 exact Tj ⟨(s.trans p),Z,Z⟩
 exact Tz
 exact Tz
 refine Tf 27 Z Z Z g Z (Tf 27 Z Z Z g Z (Tf 27 Z Z Z g Z (Tf 27 Z Z Z g Z (Tg 27 Z Z Z g Z ⟨(Sl Z), ?_⟩ ?_))))
 refine qt (Bv false) Z (Pf Z g Z) (qt (Bv false) Z (Mv Z) (Tf 34 Z Z Z Z Z (Tf 34 Z Z Z Z Z (Tf 34 Z Z Z Z Z (Tf 34 Z Z Z Z Z (Tg 34 Z Z Z Z Z ⟨(Sl Z), ?_⟩ ?_))))))
 refine qt (Bv false) Z (Pf Z Z Z) (qt (Bv false) Z (Ag Z) (Ti ?_))
 obtain rfl:=oi h
 exact Tj ⟨s,Z,Z⟩
 exact Tz
 exact Tz
 refine Tf 20 Z Z Z f Z (Tf 20 Z Z Z f Z (Tf 20 Z Z Z f Z (Tf 20 Z Z Z f Z (Tf 20 Z Z Z f Z (qt (Bv false) Z (Pf Z f Z) (qt (Bv false) Z (Mv Z) (Tf 27 Z Z Z Z Z (Tf 27 Z Z Z Z Z (Tf 27 Z Z Z Z Z (Tf 27 Z Z Z Z Z (Tg 27 Z Z Z Z Z ⟨(Sl Z), ?_⟩ ?_)))))))))))
 refine qt (Bv false) Z (Pf Z Z Z) (qt (Bv false) Z (Mv Z) (Tf 34 Z Z Z Z Z (Tf 34 Z Z Z Z Z (Tf 34 Z Z Z Z Z (Tf 34 Z Z Z Z Z (Tg 34 Z Z Z Z Z ⟨(Sl Z), ?_⟩ ?_))))))
 refine qt (Bv false) Z (Pf Z Z Z) (qt (Bv false) Z (Ag Z) (Ti ?_))
 obtain rfl:=oi h
 exact Tj ⟨s,Z,Z⟩
 exact Tz
 exact Tz
 refine Tf 13 Z Z Z e Z (Tf 13 Z Z Z e Z (Tf 13 Z Z Z e Z (Tf 13 Z Z Z e Z (Tf 13 Z Z Z e Z (qt (Bv false) Z (Pf Z e Z) (qt (Bv false) Z (Mv Z) (Tf 20 Z Z Z Z Z (Tf 20 Z Z Z Z Z (Tf 20 Z Z Z Z Z (Tf 20 Z Z Z Z Z (Tf 20 Z Z Z Z Z ?_)))))))))))
 refine qt (Bv false) Z (Pf Z Z Z) (qt (Bv false) Z (Mv Z) (Tf 27 Z Z Z Z Z (Tf 27 Z Z Z Z Z (Tf 27 Z Z Z Z Z (Tf 27 Z Z Z Z Z (Tg 27 Z Z Z Z Z ⟨(Sl Z), ?_⟩ ?_))))))
 refine qt (Bv false) Z (Pf Z Z Z) (qt (Bv false) Z (Mv Z) (Tf 34 Z Z Z Z Z (Tf 34 Z Z Z Z Z (Tf 34 Z Z Z Z Z (Tf 34 Z Z Z Z Z (Tg 34 Z Z Z Z Z ⟨(Sl Z), ?_⟩ ?_))))))
 refine qt (Bv false) Z (Pf Z Z Z) (qt (Bv false) Z (Ag Z) (Ti ?_))
 obtain rfl:=oi h
 exact Tj ⟨s,Z,Z⟩
 exact Tz
 exact Tz
 exact Tz
 exact Tz
 rintro N O P ⟨A,rfl,v⟩
 exact Cr (Dr (Dr (Rf h [] Z (Rs Z v) A ⟨Z,Z⟩)))
noncomputable def f_errors_is_l0 (a1:Int) (s_:GErr):Option (GErr⊕Bool):=
 match s_ with
 |b=>
 (match b with | .nil=>(some (inr false)) | .code c=>(if(decide (c=a1))=true then(some (inr true))else(some (inr false))) | .fault d a26 e=>((f_api_Fault_Unwrap (⟨d,a26,e⟩:T_api_Fault)).bind fun a=>(if a.isNil=true then(some (inr false))else(some (inl a)))) | .other f=>(some (inr false)))
noncomputable def f_errors_is (a0:GErr) (a1:Int):Option Bool:=
 ((iter (f_errors_is_l0 a1) a0).bind (fun(a:Bool)=>(some a)))
def f_errors_is_post (a0:GErr) (a1:Int):Bool→Value→IM→HL→Prop:=
 fun(a:Bool) (v:Value) (M':IM) (H':HL)=>(.bool a)=v∧H'=[]
theorem f_errors_is_ok (a0:GErr) (a1:Int) (M:IM) (res:Bool) (h:f_errors_is a0 a1=some res):
 Tri prog 92 #[(GV a0),(GV (GErr.code a1)),(Bv true)] M [] (f_errors_is_post a0 a1 res):=by
 unfold f_errors_is at h
 refine Te func92 Z Z ?_
 intro F ρ hρ
 refine Sr (qa (Bv false) (Nt (Bk ?_)))
 obtain ⟨t,p,i⟩:=bnd h
 clear h
 refine WC.loop p (fun(o:GErr) ρ' M' H'=>M.le M'∧F=H'∧ρ' 0=(GV o)∧ρ' 1=(GV (GErr.code a1))∧ρ' 2=(Bv true)) ?_ ?_
 exact⟨lr,Z,(hρ 0),(hρ 1),(hρ 2)⟩
 rintro o u v w x h ⟨d,rfl,a,k,l⟩
 unfold f_errors_is_l0 at h
 refine Bk (Cs (Sr (qM (Bv true) l (qm (Bv true) (On 15 Z Z Z (qM (GV o) a (On 15 Z Z Z (qM (GV (GErr.code a1)) k (On 15 Z Z Z ?_)))))))))
 rcases o with _ |g |⟨e,a26,f⟩ |j
 refine qu (Bv false) (nilIfaceNe underlying31 (show ev _ _= .nilIface from Z) (show ev _ _=(.iface 38 (Iv a1)) from Z)) (qu (Bv false) (Pt Z Z Z) (Nt (WC.condF (b:=false) Z Z (Ck (Tc (Cs (Sr (qM (GV GErr.nil) a (qu (.tuple #[.nilIface,(Bv false)]) (asserts (show ev _ _= .nilIface from Z) (run_assert_nil zo186 underlying186)) (qm (.tuple #[.nilIface,(Bv false)]) (qu .nilIface (Xt Z Z) ?_)))))))))))
 refine qu (Bv false) (Xt Z Z) (qa .nilIface (qa (Bv false) (Ns (qm (Bv false) (qm (Bv false) ?_)))))
 iterate 3 refine Of 26 Z Z Z Z ?_
 refine qu (Bv false) (Pf Z Z Z) (Nt (WC.condF (b:=false) Z Z (Ck (Tc (Sr (qM (GV GErr.nil) a (Nt (Bk (Sr (qu (.tuple #[.nilIface,(Bv false)]) (asserts (show ev _ _= .nilIface from Z) (run_assert_nil zo189 underlying189)) (qu (Bv false) (Xt Z Z) ?_)))))))))))
 refine qu .nilIface (Xt Z Z) (Nt (WC.condF (b:=false) Z Z (Sr (qu (.tuple #[.nilIface,(Bv false)]) (asserts (show ev _ _= .nilIface from Z) (run_assert_nil zo190 underlying190)) (qu (Bv false) (Xt Z Z) (qu .nilIface (Xt Z Z) (Nt (WC.condF (b:=false) Z Z (Sr (qa (GV GErr.nil) (Ns ?_)))))))))))
 refine qa (Bv false) (Nt (Cr (Br (Br (WQ.leaveR false (oi h).symm (fun c=> ?_))))))
 subst c
 have h:=i
 exact Br (Rf h [] Z (Rs Z Z) d ⟨Z,Z⟩)
 refine qu (Bv (decide (g=a1))) (ifaceInt underlying31 underlying38 cm38 (show ev _ _=(.iface 38 (Iv g)) from Z) (show ev _ _=(.iface 38 (Iv a1)) from Z)) (qu (Bv (decide (g=a1))) (Pt Z Z Z) (Nt (Ch h Z (fun q h=> ?_) (fun q h=> ?_))))
 refine Sr (qa (Bv true) (Nt (Cr (Tr (Br (WQ.leaveR true (oi h).symm (fun c=> ?_)))))))
 subst c
 have h:=i
 exact Br (Rf h [] Z (Rs Z Z) d ⟨Z,Z⟩)
 refine Ck (Tc (Cs (Sr (qM (GV (GErr.code g)) a (qu (.tuple #[.nilIface,(Bv false)]) (asserts (show ev _ _=(.iface 38 (Iv g)) from Z) (la38_186 _ _)) (qm (.tuple #[.nilIface,(Bv false)]) (qu .nilIface (Xt Z Z) (qu (Bv false) (Xt Z Z) (qa .nilIface (qa (Bv false) (Ns ?_)))))))))))
 refine qm (Bv false) (qm (Bv false) ?_)
 iterate 3 refine Of 26 Z Z Z Z ?_
 refine qu (Bv false) (Pf Z Z Z) (Nt (WC.condF (b:=false) Z Z (Ck (Tc (Sr (qM (GV (GErr.code g)) a (Nt (Bk (Sr (qu (.tuple #[.nilIface,(Bv false)]) (asserts (show ev _ _=(.iface 38 (Iv g)) from Z) (la38_189 _ _)) (qu (Bv false) (Xt Z Z) ?_)))))))))))
 refine qu .nilIface (Xt Z Z) (Nt (WC.condF (b:=false) Z Z (Sr (qu (.tuple #[.nilIface,(Bv false)]) (asserts (show ev _ _=(.iface 38 (Iv g)) from Z) (la38_190 _ _)) (qu (Bv false) (Xt Z Z) (qu .nilIface (Xt Z Z) (Nt (WC.condF (b:=false) Z Z (Sr (qa (GV (GErr.code g)) (Ns ?_)))))))))))
 refine qa (Bv false) (Nt (Cr (Br (Br (WQ.leaveR false (oi h).symm (fun c=> ?_))))))
 subst c
 have h:=i
 exact Br (Rf h [] Z (Rs Z Z) d ⟨Z,Z⟩)
 refine qu (Bv false) (ifaceNe underlying31 (show ev _ _=(.iface 108 (.agg #[.string e, .int .i64 a26,GV f])) from Z) (show ev _ _=(.iface 38 (Iv a1)) from Z) Z) (qu (Bv false) (Pt Z Z Z) (Nt (WC.condF (b:=false) Z Z (Ck (Tc (Cs (Sr (qM (GV (GErr.fault e a26 f)) a (qu (.tuple #[.nilIface,(Bv false)]) (asserts (show ev _ _=(.iface 108 (.agg #[.string e, .int .i64 a26,GV f])) from Z) (la108_186 _ _)) (qm (.tuple #[.nilIface,(Bv false)]) (qu .nilIface (Xt Z Z) ?_)))))))))))
 refine qu (Bv false) (Xt Z Z) (qa .nilIface (qa (Bv false) (Ns (qm (Bv false) (qm (Bv false) ?_)))))
 iterate 3 refine Of 26 Z Z Z Z ?_
 refine qu (Bv false) (Pf Z Z Z) (Nt (WC.condF (b:=false) Z Z (Ck (Tc (Sr (qM (GV (GErr.fault e a26 f)) a (Nt (Bk (Sr (qu (.tuple #[(GV (GErr.fault e a26 f)),(Bv true)]) (asserts (show ev _ _=(.iface 108 (.agg #[.string e, .int .i64 a26,GV f])) from Z) (ha108_189 _ _)) (qu (Bv true) (Xt Z Z) ?_)))))))))))
 refine qu (GV (GErr.fault e a26 f)) (Xt Z Z) (Nt (WC.condT (b:=true) Z Z (Sr (qa (GV (GErr.fault e a26 f)) (Ns (qm (GV (GErr.fault e a26 f)) ?_))))))
 obtain ⟨m,r,h⟩:=bnd h
 refine We (invT (show ev _ _=(.iface 108 (.agg #[.string e, .int .i64 a26,GV f])) from Z) (me108_Unwrap _) co168 inv0 (f_api_Fault_Unwrap_ok (⟨e,a26,f⟩:T_api_Fault) _ m r)) Z ?_
 rintro _ y _ n ⟨_,⟨rfl,rfl⟩,rfl⟩
 refine WL.a0 (qa (GV m) (Ns (qm (GV m) (qu (Bv m.isNil) (errNil underlying31 Z) (Nt (Ch h Z (fun s h=> ?_) (fun s h=> ?_)))))))
 refine Sr (qa (Bv false) (Nt (Cr (Br (Br (WQ.leaveR false (oi h).symm (fun c=> ?_)))))))
 subst c
 have h:=i
 exact Br (Rf h [] Z (Rs Z Z) (d.trans n) ⟨Z,Z⟩)
 exact Ck (Bn (Bn (WQ.again m (oi h).symm ⟨(d.trans n),Z,Z,k,l⟩)))
 refine qu (Bv false) (ifaceNe underlying31 (show ev _ _=(.iface 0 (.pointer (some j))) from Z) (show ev _ _=(.iface 38 (Iv a1)) from Z) Z) (qu (Bv false) (Pt Z Z Z) (Nt (WC.condF (b:=false) Z Z (Ck (Tc (Cs (Sr (qM (GV (GErr.other j)) a (qu (.tuple #[.nilIface,(Bv false)]) (asserts (show ev _ _=(.iface 0 (.pointer (some j))) from Z) (la0_186 _ _)) (qm (.tuple #[.nilIface,(Bv false)]) (qu .nilIface (Xt Z Z) ?_)))))))))))
 refine qu (Bv false) (Xt Z Z) (qa .nilIface (qa (Bv false) (Ns (qm (Bv false) (qm (Bv false) ?_)))))
 iterate 3 refine Of 26 Z Z Z Z ?_
 refine qu (Bv false) (Pf Z Z Z) (Nt (WC.condF (b:=false) Z Z (Ck (Tc (Sr (qM (GV (GErr.other j)) a (Nt (Bk (Sr (qu (.tuple #[.nilIface,(Bv false)]) (asserts (show ev _ _=(.iface 0 (.pointer (some j))) from Z) (la0_189 _ _)) (qu (Bv false) (Xt Z Z) ?_)))))))))))
 refine qu .nilIface (Xt Z Z) (Nt (WC.condF (b:=false) Z Z (Sr (qu (.tuple #[.nilIface,(Bv false)]) (asserts (show ev _ _=(.iface 0 (.pointer (some j))) from Z) (la0_190 _ _)) (qu (Bv false) (Xt Z Z) (qu .nilIface (Xt Z Z) (Nt (WC.condF (b:=false) Z Z (Sr (qa (GV (GErr.other j)) (Ns ?_)))))))))))
 refine qa (Bv false) (Nt (Cr (Br (Br (WQ.leaveR false (oi h).symm (fun c=> ?_))))))
 subst c
 have h:=i
 exact Br (Rf h [] Z (Rs Z Z) d ⟨Z,Z⟩)
noncomputable def f_errors_Is (a0:GErr) (a1:Int):Option Bool:=
 (if a0.isNil=true then(match a0 with | .nil=>(some false) | .code a=>(some (decide (a=a1))) | .fault c a24 d=>(some false) | .other e=>(some false))else((f_errors_is a0 a1).bind fun b=>(some b)))
def f_errors_Is_post (a0:GErr) (a1:Int):Bool→Value→IM→HL→Prop:=
 fun(a:Bool) (v:Value) (M':IM) (H':HL)=>(.bool a)=v∧H'=[]
theorem f_errors_Is_ok (a0:GErr) (a1:Int) (M:IM) (res:Bool) (h:f_errors_Is a0 a1=some res):
 Tri prog 65 #[(GV a0),(GV (GErr.code a1))] M [] (f_errors_Is_post a0 a1 res):=by
 unfold f_errors_Is at h
 refine Te func65 Z Z ?_
 intro F ρ hρ
 refine Sr (qa (Bv false) (Nt (Cs (Sr (qM (GV a0) (hρ 0) (qu (Bv a0.isNil) (errNil underlying31 Z) (qm (Bv a0.isNil) ?_)))))))
 rcases Bi h with⟨a,h⟩ |⟨a,h⟩
 iterate 2 refine Of 8 Z Z a Z ?_
 refine qu (Bv true) (Pt Z a Z) (Nt (WC.condT (b:=true) Z Z (Sr (qM (GV a0) (hρ 0) (qM (GV (GErr.code a1)) (hρ 1) ?_)))))
 rcases a0 with _ |c |⟨i,a24,j⟩ |k
 exact qu (Bv false) (nilIfaceNe underlying31 (show ev _ _= .nilIface from Z) (show ev _ _=(.iface 38 (Iv a1)) from Z)) (qa (Bv false) (Nt (Cr (Tr (Rf h [] Z (Rs Z Z) lr ⟨Z,Z⟩)))))
 exact qu (Bv (decide (c=a1))) (ifaceInt underlying31 underlying38 cm38 (show ev _ _=(.iface 38 (Iv c)) from Z) (show ev _ _=(.iface 38 (Iv a1)) from Z)) (qa (Bv (decide (c=a1))) (Nt (Cr (Tr (Rf h [] Z (Rs Z Z) lr ⟨Z,Z⟩)))))
 exact qu (Bv false) (ifaceNe underlying31 (show ev _ _=(.iface 108 (.agg #[.string i, .int .i64 a24,GV j])) from Z) (show ev _ _=(.iface 38 (Iv a1)) from Z) Z) (qa (Bv false) (Nt (Cr (Tr (Rf h [] Z (Rs Z Z) lr ⟨Z,Z⟩)))))
 exact qu (Bv false) (ifaceNe underlying31 (show ev _ _=(.iface 0 (.pointer (some k))) from Z) (show ev _ _=(.iface 38 (Iv a1)) from Z) Z) (qa (Bv false) (Nt (Cr (Tr (Rf h [] Z (Rs Z Z) lr ⟨Z,Z⟩)))))
 refine On 8 Z Z a (qM (GV (GErr.code a1)) (hρ 1) (qo 8 a (Bv false) (errNil (tc:=38) (tf:=108) (tp:=0) (e:=GErr.code a1) underlying31 Z) (qu (Bv false) (Pf Z a Z) (Nt (WC.condF (b:=false) Z Z (Ck (Tc (Sr (qM (GV (GErr.code a1)) (hρ 1) (We (extP xt91 (args1 (show ev _ _=(.iface 38 (Iv a1)) from Z)) (ty38 _)) Z ?_))))))))))
 rintro _ _ _ - ⟨rfl,rfl,rfl⟩
 refine We (invE (show ev _ _=(.iface 184 (.agg #[.pointer (some ⟨1,38,none⟩)])) from Z) (mm_Comparable (pt 1 38)) xt174 inv0 mr_Comparable_38) Z ?_
 rintro _ _ _ - ⟨rfl,rfl,rfl⟩
 refine qa (Bv true) (Ns (qM (GV a0) (hρ 0) (qM (GV (GErr.code a1)) (hρ 1) (qm (Bv true) ?_))))
 obtain ⟨f,g,h⟩:=bnd h
 refine We (Ca co92 (f_errors_is_ok a0 a1 _ f g) (args3 Z Z Z)) Z ?_
 rintro _ l _ d ⟨_,⟨rfl,rfl⟩,rfl⟩
 exact WL.a0 (qa (Bv f) (Nt (Cr (Rf h [] Z (Rs Z Z) d ⟨Z,Z⟩))))
noncomputable def f_fault_Is (a0:GErr) (a1:Int):Option Bool:=
 ((f_errors_Is a0 a1).bind fun a=>(some a))
def f_fault_Is_post (a0:GErr) (a1:Int):Bool→Value→IM→HL→Prop:=
 fun(a:Bool) (v:Value) (M':IM) (H':HL)=>(.bool a)=v∧H'=[]
theorem f_fault_Is_ok (a0:GErr) (a1:Int) (M:IM) (res:Bool) (h:f_fault_Is a0 a1=some res):
 Tri prog 22 #[(GV a0),(Iv a1)] M [] (f_fault_Is_post a0 a1 res):=by
 unfold f_fault_Is at h
 refine Te func22 Z Z ?_
 intro F ρ hρ
 refine Sr (qa (Bv false) (Ns (qM (GV a0) (hρ 0) (qM (Iv a1) (hρ 1) (qu (GV (GErr.code a1)) (makeInterface cc38 Z) ?_)))))
 obtain ⟨b,c,h⟩:=bnd h
 refine We (Ca co65 (f_errors_Is_ok a0 a1 _ b c) (args2 Z Z)) Z ?_
 rintro _ d _ a ⟨_,⟨rfl,rfl⟩,rfl⟩
 exact WL.a0 (qa (Bv b) (Nt (Cr (Rf h [] Z (Rs Z Z) a ⟨Z,Z⟩))))
noncomputable def f_slices_Clone_int_int (a0:(List Int)):Option (List Int):=
 (grd (([]:List Int).length+a0.length≤274877906944) (some (([]:List Int)++a0)))
def f_slices_Clone_int_int_post (a0:(List Int)) (d:Value):(List Int)→Value→IM→HL→Prop:=
 fun(c:(List Int)) (v:Value) (M':IM) (H':HL)=>∃ a b,a=v∧H'=[b]∧OwnS (Kd.int .i64) M' a c b
theorem f_slices_Clone_int_int_ok (a0:(List Int)) (M:IM) (d:Value) (j:RS (Kd.int .i64) M d a0) (res:(List Int)) (h:f_slices_Clone_int_int a0=some res):
 Tri prog 140 #[d] M [] (f_slices_Clone_int_int_post a0 d res):=by
 unfold f_slices_Clone_int_int at h
 refine Te func140 Z Z ?_
 intro F ρ hρ
 refine Sr (qa Zs (Nt (Cs (Sr (qM d (hρ 0) (qu (Bv (nilS d)) (sliceNil underlying56 Z j.len Z) (Nt (Cd (b:=nilS d) Z (fun c=> ?_) (fun c=> ?_)))))))))
 obtain rfl:=j.nilxs (by decide) c
 have h:=Eq.trans (a:=((some []):Option (List Int))) (by simp [grd]) h
 exact Sr (qa Zs (Nt (Cr (Tr (WQ.e0 (Rf h [[]] Z (Rs Z Z) lr ⟨Zs,[],Z,Z,(OwnS.nil _ _)⟩))))))
 refine Ck (Tc (Sr (We (buildSliceL (cl:=[]) underlying56 iz3 Z Pz Z) Z ?_)))
 rintro _ _ _ - ⟨rfl,e,rfl,rfl⟩
 have k:OwnS (Kd.int .i64) M (.slice (some ⟨e,0,none⟩) 0 0) [] [(e, .cells #[] 3 (0,0))]:=OwnS.rows (css:=[]) Rows.nil Z Z
 refine qM d (hρ 0) ?_
 obtain ⟨f,h⟩:=grd_i h
 refine We (append (dd:=(Kd.int .i64)) (xs:=[]) (ys:=a0) underlying56 underlying56 in3 Z (appB (by decide) f) (by decide) Z Z k (j.src _)) Z ?_
 rintro g _ _ - ⟨rfl,i,rfl,l⟩
 exact qa g (Nt (Cr (Rf h [i] Z (Rs Z Z) lr ⟨g,i,Z,Z,l⟩)))
noncomputable def f_batch_one (a0:T_api_Record):Option T_api_Record:=
 ((f_slices_Clone_int_int a0.Ids).bind fun a=>((f_slices_Clone_int_int a0.Isr).bind fun b=>((f_slices_Clone_int_int a0.Add).bind fun c=>((f_slices_Clone_int_int a0.Drop).bind fun d=>(some (⟨a0.Kind,a0.Broker,a0.Epoch,a0.Topic,a0.Part,a0.Leader,a0.Client,a0.Serial,a0.Code,a0.Flag,a0.Name,a0.Key,a0.Value,a0.Rack,a,b,c,d⟩:T_api_Record))))))
def f_batch_one_post (a0:T_api_Record) (k l m n:Value):T_api_Record→Value→IM→HL→Prop:=
 fun(a:T_api_Record) (v:Value) (M':IM) (H':HL)=>∃ b c d e f g i j,(.agg #[(.int .i64 a.Kind),(.int .i64 a.Broker),(.int .i64 a.Epoch),(.int .i64 a.Topic),(.int .i64 a.Part),(.int .i64 a.Leader),(.int .i64 a.Client),(.int .i64 a.Serial),(.int .i64 a.Code),(.bool a.Flag),(.string a.Name),(.string a.Key),(.string a.Value),(.string a.Rack),b,d,f,i])=v∧H'=[c,e,g,j]∧OwnS (Kd.int .i64) M' b a.Ids c∧OwnS (Kd.int .i64) M' d a.Isr e∧OwnS (Kd.int .i64) M' f a.Add g∧OwnS (Kd.int .i64) M' i a.Drop j
theorem f_batch_one_ok (a0:T_api_Record) (M:IM) (i f c a:Value) (A:RS (Kd.int .i64) M i a0.Ids) (r:RS (Kd.int .i64) M f a0.Isr) (s:RS (Kd.int .i64) M c a0.Add) (t:RS (Kd.int .i64) M a a0.Drop) (res:T_api_Record) (h:f_batch_one a0=some res):
 Tri prog 121 #[(a58_ a0 i f c a)] M [] (f_batch_one_post a0 i f c a res):=by
 unfold f_batch_one at h
 refine Te func121 Z Z ?_
 intro F ρ hρ
 refine Sr (We (box (cs:=(l58 a0 i f c a).toArray) (congrArg Value.cells (asE (a58_ a0 i f c a) (hρ 0)))) Z ?_)
 rintro _ _ _ - ⟨rfl,q,rfl,rfl⟩
 refine We (Al ze58 Z) Z ?_
 rintro _ _ _ - ⟨rfl,L,rfl,rfl⟩
 refine Nt (Cs (WC.draw [0,1,3,0,8,31,31,127,255,511] (.pure 0 (.pure 1 (.pure 3 (.pure 4 (.alt 2 (.pure 6 (.alt 5 (.alt 7 (.pure 8 (.alt 9 .done .none)) .none) .none)) .none))))) mixed (by kernel_rfl) (qt (pt q 14) Z (Fa fo58_14 Z Z) (qt i Z (Lb 1 pl56 Z Z Z) (qt (pt q 15) Z (Fa fo58_15 Z Z) (qt f Z (Lb 1 pl56 Z Z Z) ?_))))))
 obtain ⟨G,B,h⟩:=bnd h
 refine Ta Z (Ca co140 (f_slices_Clone_int_int_ok a0.Ids _ _ A G B) (args1 Z)) Z ?_ ?_
 rintro _ N _ m ⟨_,⟨b,w,rfl,rfl,j⟩,rfl⟩
 refine⟨(Ss Z (Lb 2 pl56 Z Z Z) Z (Ss Z (Fa fo58_15 Z Z) Z (Sl Z))), ?_⟩
 refine WT.a1 (qt (pt q 14) Z (Fa fo58_14 Z Z) ?_)
 obtain ⟨I,C,h⟩:=bnd h
 have r:=r.mono m
 refine Ta Z (Ca co140 (f_slices_Clone_int_int_ok a0.Isr _ _ r I C) (args1 Z)) Z ?_ ?_
 rintro _ O _ n ⟨_,⟨d,x,rfl,rfl,k⟩,rfl⟩
 refine⟨(Ss Z (Fa fo58_14 Z Z) Z (Sl Z)), ?_⟩
 refine WT.a1 (WT.f3 ?_)
 have j:=j.mono n
 refine Ta Z (Es b ((l58 a0 b f c a)) j.cells sz56 Z Z (Ow j) Z Z (by kernel_rfl)) Z ?_ ?_
 rintro _ _ _ - ⟨rfl,rfl⟩
 refine⟨(Sl Z), ?_⟩
 refine qt (pt q 15) Z (Fa fo58_15 Z Z) (Ta Z (Es d ((l58 a0 b d c a)) k.cells sz56 Z Z (Ow k) Z Z (by kernel_rfl)) Z ?_ ?_)
 rintro _ _ _ - ⟨rfl,rfl⟩
 refine⟨(Sl Z), ?_⟩
 refine Ti (Tc (Cs (WC.draw [0,1,3,0,8,31,31,127,255,511] (.pure 0 (.pure 1 (.pure 3 (.pure 4 (.alt 2 (.pure 6 (.alt 5 (.alt 7 (.pure 8 (.alt 9 .done .none)) .none) .none)) .none))))) mixed (by kernel_rfl) (qt (pt q 16) Z (Fa fo58_16 Z Z) (qt c Z (Lb 0 pl56 Z Z Z) (qt (pt q 17) Z (Fa fo58_17 Z Z) (qt a Z (Lb 0 pl56 Z Z Z) ?_)))))))
 obtain ⟨J,D,h⟩:=bnd h
 have s:=s.mono (m.trans n)
 refine Ta Z (Ca co140 (f_slices_Clone_int_int_ok a0.Add _ _ s J D) (args1 Z)) Z ?_ ?_
 rintro _ P _ o ⟨_,⟨e,y,rfl,rfl,l⟩,rfl⟩
 refine⟨(Ss Z (Lb 1 pl56 Z Z Z) Z (Ss Z (Fa fo58_17 Z Z) Z (Sl Z))), ?_⟩
 refine WT.a1 (qt (pt q 16) Z (Fa fo58_16 Z Z) ?_)
 obtain ⟨K,E,h⟩:=bnd h
 have t:=t.mono ((m.trans n).trans o)
 refine Ta Z (Ca co140 (f_slices_Clone_int_int_ok a0.Drop _ _ t K E) (args1 Z)) Z ?_ ?_
 rintro _ Q _ p ⟨_,⟨g,z,rfl,rfl,u⟩,rfl⟩
 refine⟨(Ss Z (Fa fo58_16 Z Z) Z (Sl Z)), ?_⟩
 refine WT.a1 (WT.f2 ?_)
 have l:=l.mono p
 refine Ta Z (Es e ((l58 a0 b d e a)) l.cells sz56 Z Z (Ow l) Z Z (by kernel_rfl)) Z ?_ ?_
 rintro _ _ _ - ⟨rfl,rfl⟩
 refine⟨(Sl Z), ?_⟩
 refine qt (pt q 17) Z (Fa fo58_17 Z Z) (Ta Z (Es g ((l58 a0 b d e g)) u.cells sz56 Z Z (Ow u) Z Z (by kernel_rfl)) Z ?_ ?_)
 rintro _ _ _ - ⟨rfl,rfl⟩
 refine⟨(Sl Z), ?_⟩
 refine Ti (Tc (Sr (qu (a58_ a0 b d e g) (La (cs:=(l58 a0 b d e g)) 0 ag58 sz58 Z Z Z) (WL.f5 ?_))))
 have j:=j.mono (o.trans p)
 have k:=k.mono (o.trans p)
 refine We (Sg (v:=(a58_ a0 b d e g)) (vl:=(l58 a0 b d e g)) (arr':=(l58 a0 b d e g)) Z sz58 Z Z (onesOf (Oc Z (Oc Z (Oc Z (Oc Z (Oc Z (Oc Z (Oc Z (Oc Z (Oc Z (Oc Z (Oc Z (Oc Z (Oc Z (Oc Z (Oc (Ow j) (Oc (Ow k) (Oc (Ow l) (Oc (Ow u) Oz))))))))))))))))))) Z Z (by kernel_rfl)) Z ?_
 rintro _ _ _ - ⟨rfl,rfl⟩
 exact Nt (Cr (Qa (Dr (Qa (Qb (WQ.f3 (WQ.f4 (WQ.f4 (Rd h [w,x,y,z] (fun _ hs=>hs.drop) (resultsL1 Z (Rc (cs:=(l58 a0 b d e g)) 0 ag58 sz58 Z Z Z)) (((m.trans n).trans o).trans p) ⟨b,w,d,x,e,y,g,z,Z,Z,j,k,l,u⟩)))))))))
 exact Tz
 exact Tz
 exact Tz
 exact Tz
 exact Tz
 exact Tz
 exact Tz
 exact Tz
noncomputable def f_batch_Of_l0 (a2:(List T_api_Record)) (s_:(Int×(List T_api_Record))):Option ((Int×(List T_api_Record))⊕(List T_api_Record)):=
 match s_ with
 |(a,b)=>
 (if(decide (a<(a2.length:Int)))=true then(grd (0≤a∧a<a2.length) ((f_batch_one (rd a2 a)).bind fun c=>(grd (b.length+[c].length≤274877906944) (some (inl (i64.wrap (a+(1:Int)),b++[c]))))))else(some (inr b)))
noncomputable def f_batch_Of (a0:Int) (a1:Int) (a2:(List T_api_Record)):Option T_api_Batch:=
 ((((iter (f_batch_Of_l0 a2) ((0:Int),[])).bind (fun(a:(List T_api_Record))=>(some a))):Option (List T_api_Record)).bind fun b=>(some (⟨a0,a1,b⟩:T_api_Batch)))
def f_batch_Of_post (a0:Int) (a1:Int) (a2:(List T_api_Record)) (d:Value):T_api_Batch→Value→IM→HL→Prop:=
 fun(c:T_api_Batch) (v:Value) (M':IM) (H':HL)=>∃ a b,(.agg #[(.int .i64 c.Term),(.int .i64 c.Base),a])=v∧H'=[b]∧OwnS kd_api_Record M' a c.Records b
theorem f_batch_Of_ok (a0:Int) (a1:Int) (a2:(List T_api_Record)) (M:IM) (v2:Value) (h2:RS kd_api_Record M v2 a2) (res:T_api_Batch) (h:f_batch_Of a0 a1 a2=some res):
 Tri prog 80 #[(Iv a0),(Iv a1),v2] M [] (f_batch_Of_post a0 a1 a2 v2 res):=by
 unfold f_batch_Of at h
 refine Te func80 Z Z ?_
 intro F ρ hρ
 refine Sr (We (Al ze55 Z) Z ?_)
 rintro _ _ _ - ⟨rfl,a5,rfl,rfl⟩
 refine Ns (qM (Iv a0) (hρ 0) (qM (Iv a1) (hρ 1) (qu (.agg #[(Iv a0),(Iv a1),Zs]) (Bl (cl:=[(Iv a0),(Iv a1),Zs]) ze55 fp55 (Pc (Iv a0) Z Z (Pc (Iv a1) Z Z Pz)) Z) (We (Al ze55 Z) Z ?_))))
 rintro _ _ _ - ⟨rfl,P,rfl,rfl⟩
 refine We (Sg (v:=(.agg #[(Iv a0),(Iv a1),Zs])) (vl:=[(Iv a0),(Iv a1),Zs]) (arr':=[(Iv a0),(Iv a1),Zs]) Z sz55 Z Z (onb Z) Z Z Z) Z ?_
 rintro _ _ _ - ⟨rfl,rfl⟩
 refine Nt ?_
 obtain ⟨a8,b6,h⟩:=bnd h
 refine Jf (fun(a8:(List T_api_Record)) ρ' M' H'=>∃ f y,M.le M'∧[(P, .cells #[(Iv a0),(Iv a1),f] 55 (0,0))]::[(a5, .cells #[(Iv 0),(Iv 0),Zs] 55 (0,0))]::y::F=H'∧ρ' 6=(pt a5 0)∧ρ' 7=(pt P 0)∧OwnS kd_api_Record M' f a8 y) a8 ?_ ?_
 have h:=b6
 refine Sr (qM v2 (hρ 2) (qu (Iv (a2.length:Int)) (lenS underlying53 Z h2.len) (qm (Iv 0) (Nt (Bk (WC.e0 (WC.f2 (WC.f2 ?_))))))))
 obtain ⟨d0,b7,b8⟩:=bnd h
 clear h
 refine WC.loop b7 (fun(p_:(Int×(List T_api_Record))) ρ' M' H'=>match p_ with |(g,Q)=>∃ z J,M.le M'∧[(P, .cells #[(Iv a0),(Iv a1),z] 55 (0,0))]::[(a5, .cells #[(Iv 0),(Iv 0),Zs] 55 (0,0))]::J::F=H'∧ρ' 6=(pt a5 0)∧ρ' 7=(pt P 0)∧ρ' 13=v2∧ρ' 14=(Iv (a2.length:Int))∧ρ' 15=(Iv g)∧OwnS kd_api_Record M' z Q J) ?_ ?_
 exact⟨Zs,[],lr,Z,Z,Z,Z,Z,Z,(OwnS.nil _ _)⟩
 rintro ⟨g,Q⟩ d1 d2 d3 d4 h ⟨z,J,I,rfl,K,e,A,B,m,L⟩
 unfold f_batch_Of_l0 at h
 refine Sr (qu (Bv (decide (g<(a2.length:Int)))) (lss m B) (Nt (Cs (Ch h Z (fun b9 h=> ?_) (fun b9 h=> ?_)))))
 refine Ck (Tc (Cs (Bk (Sr ?_))))
 obtain ⟨N,h⟩:=grd_i h
 have h2:=h2.mono I
 obtain ⟨c5,c9,a9,b0,hhas36⟩:=h2.at N.1 N.2 (by decide)
 obtain ⟨a,b,c,d,rfl,C,D,E,G⟩:=kd_api_Record_open b0
 refine qu (.pointer (some c5)) (indexAddr (n:=a2.length) underlying53 sz58 A m N.1 N.2 a9) (qu (a58_ (rd a2 g) a b c d) (loadMA (cs:=(l58 (rd a2 g) a b c d)) ag58 sz58 Z hhas36) (We (Al ze58 Z) Z ?_))
 rintro _ _ _ - ⟨rfl,d5,rfl,rfl⟩
 refine We (Sg (v:=(a58_ (rd a2 g) a b c d)) (vl:=(l58 (rd a2 g) a b c d)) (arr':=(l58 (rd a2 g) a b c d)) Z sz58 Z Z (onesOf (Oc Z (Oc Z (Oc Z (Oc Z (Oc Z (Oc Z (Oc Z (Oc Z (Oc Z (Oc Z (Oc Z (Oc Z (Oc Z (Oc Z (Oc (RS.one C) (Oc (RS.one D) (Oc (RS.one E) (Oc (RS.one G) Oz))))))))))))))))))) Z Z (by kernel_rfl)) Z ?_
 rintro _ _ _ - ⟨rfl,rfl⟩
 refine Nt (WC.draw [0,1,0,4,12,31,63,127] (.pure 0 (.pure 1 (.pure 2 (.alt 3 (.alt 4 (.alt 5 (.pure 6 (.alt 7 .done .none)) .none) .none) .none)))) mixed (by kernel_rfl) (qt (pt P 2) Z (Fa fo55_2 e Z) (qt z Z (Lb 1 pl53 Z Z Z) (qt (a58_ (rd a2 g) a b c d) Z (La (cs:=(l58 (rd a2 g) a b c d)) 0 ag58 sz58 Z Z Z) ?_))))
 obtain ⟨w,c0,h⟩:=bnd h
 refine Ta Z (Ca co121 (f_batch_one_ok (rd a2 g) _ _ _ _ _ C D E G w c0) (args1 Z)) Z ?_ ?_
 rintro _ c6 _ R ⟨_,⟨i,S,j,T,k,U,l,V,rfl,rfl,W,o,p,q⟩,rfl⟩
 refine⟨(Sk 1 Z (Ss Z (Lb 5 pl53 Z Z Z) Z (Ss Z (Fa fo55_2 e Z) Z trivial))), ?_⟩
 refine WT.a4 (WT.know (fun _ hs=>W.rs hs) (fun X=> ?_))
 refine WT.freeze (fun r=> ?_)
 have o:=o.mono r
 refine WT.know (fun _ hs=>o.rs hs) (fun Y=> ?_)
 refine WT.freeze (fun s=> ?_)
 have p:=p.mono (r.trans s)
 refine WT.know (fun _ hs=>p.rs hs) (fun a3=> ?_)
 refine WT.freeze (fun t=> ?_)
 have q:=q.mono ((r.trans s).trans t)
 refine WT.know (fun _ hs=>q.rs hs) (fun c1=> ?_)
 refine WT.freeze (fun u=> ?_)
 refine Ta Z (buildSliceL (cl:=(l58 w i j k l)) underlying53 iz58 Z (Pc (a58_ w i j k l) Z Z Pz) Z) Z ?_ ?_
 rintro _ _ _ - ⟨rfl,c2,rfl,rfl⟩
 have X:=X.mono ((s.trans t).trans u)
 have Y:=Y.mono (t.trans u)
 have a3:=a3.mono u
 have c7:OwnS kd_api_Record ((((c6.add S).add T).add U).add V) (.slice (some ⟨c2,0,none⟩) 1 1) [w] [(c2, .cells (l58 w i j k l).toArray 58 (0,0))]:=OwnS.rows (css:=[(l58 w i j k l)]) (Rows.cons (kd_api_Record_mk (x:=w) X Y a3 c1) Rows.nil) Z Z
 refine⟨(Sk 1 Z (Ss Z (Lb 2 pl53 Z Z Z) Z (Ss Z (Fa fo55_2 e Z) Z trivial))), ?_⟩
 obtain ⟨c3,h⟩:=grd_i h
 refine WT.f4 ?_
 have L:=L.mono ((((R.trans r).trans s).trans t).trans u)
 refine Ta Z (append (dd:=kd_api_Record) (xs:=Q) (ys:=[w]) underlying53 underlying53 in58 Z (appB (by decide) c3) (by decide) Z Z L (c7.src 1 Z)) Z ?_ ?_
 rintro b1 _ _ - ⟨rfl,c8,rfl,b2⟩
 refine⟨(Sl Z), ?_⟩
 refine qt (pt P 2) Z (Fa fo55_2 e Z) (WT.f3 (Ta Z (Es b1 [(Iv a0),(Iv a1),b1] b2.cells sz53 Z Z (Ow b2) Z Z Z) Z ?_ ?_))
 rintro _ _ _ - ⟨rfl,rfl⟩
 refine⟨(Sl Z), ?_⟩
 refine Ti (Bn (Tc (Cg (qu (Iv (i64.wrap (g+1))) (add m Z) (qm (Iv (i64.wrap (g+1))) (Wz (Qb (Dr (Qb (Dr (Qa ?_)))))))))))
 exact Qb (Qb (WQ.again (i64.wrap (g+1),Q++[w]) (oi h).symm ⟨b1,c8,(((((I.trans R).trans r).trans s).trans t).trans u),Z,K,e,A,B,Z,b2⟩))
 exact Tz
 exact Tz
 exact Tz
 exact Tz
 refine WC.exit (WQ.thenE (WQ.leaveE Q (oi h).symm (fun b3=> ?_)))
 subst b3
 have h:=b8
 refine WQ.blockH ?_
 obtain rfl:=oi h
 exact Tj ⟨z,J,I,Z,K,e,L⟩
 rintro d6 d7 d8 ⟨f,y,b4,rfl,O,a6,a7⟩
 refine Sr (qu (.agg #[(Iv a0),(Iv a1),f]) (La (cs:=[(Iv a0),(Iv a1),f]) 0 ag55 sz55 a6 Z Z) (WL.f1 (We (Sg (v:=(.agg #[(Iv a0),(Iv a1),f])) (vl:=[(Iv a0),(Iv a1),f]) (arr':=[(Iv a0),(Iv a1),f]) Z sz55 O Z (onesOf (Oc Z (Oc Z (Oc (Ow a7) Oz)))) Z Z Z) Z ?_)))
 rintro _ _ _ - ⟨rfl,rfl⟩
 exact Nt (Cr (Qa (Dr (Rd h [y] (fun _ hs=>hs.drop) (resultsL1 Z (Rc (cs:=[(Iv a0),(Iv a1),f]) 0 ag55 sz55 O Z Z)) b4 ⟨f,y,Z,Z,a7⟩))))
noncomputable def f_batch_Copy (a0:T_api_Batch):Option T_api_Batch:=
 ((f_batch_Of a0.Term a0.Base a0.Records).bind fun a=>(some a))
def f_batch_Copy_post (a0:T_api_Batch) (d:Value):T_api_Batch→Value→IM→HL→Prop:=
 fun(c:T_api_Batch) (v:Value) (M':IM) (H':HL)=>∃ a b,(.agg #[(.int .i64 c.Term),(.int .i64 c.Base),a])=v∧H'=[b]∧OwnS kd_api_Record M' a c.Records b
theorem f_batch_Copy_ok (a0:T_api_Batch) (M:IM) (b:Value) (i:RS kd_api_Record M b a0.Records) (res:T_api_Batch) (h:f_batch_Copy a0=some res):
 Tri prog 55 #[(a55_ a0 b)] M [] (f_batch_Copy_post a0 b res):=by
 unfold f_batch_Copy at h
 refine Te func55 Z Z ?_
 intro F ρ hρ
 refine Sr (We (box (cs:=(l55 a0 b).toArray) (congrArg Value.cells (asE (a55_ a0 b) (hρ 0)))) Z ?_)
 rintro _ _ _ - ⟨rfl,f,rfl,rfl⟩
 refine We (Al ze55 Z) Z ?_
 rintro _ _ _ - ⟨rfl,k,rfl,rfl⟩
 refine Ns (qu (pt f 0) (Fa fo55_0 Z Z) (qu (Iv a0.Term) (Lb 1 pl3 Z Z Z) (qu (pt f 1) (Fa fo55_1 Z Z) (qu (Iv a0.Base) (Lb 1 pl3 Z Z Z) (qu (pt f 2) (Fa fo55_2 Z Z) (qu b (Lb 1 pl53 Z Z Z) ?_))))))
 obtain ⟨e,j,h⟩:=bnd h
 refine We (Ca co80 (f_batch_Of_ok a0.Term a0.Base a0.Records _ _ i e j) (args3 Z Z Z)) Z ?_
 rintro _ l _ g ⟨_,⟨a,c,rfl,rfl,d⟩,rfl⟩
 refine WL.a1 (WL.f1 (We (Sg (v:=(a55_ e a)) (vl:=(l55 e a)) (arr':=(l55 e a)) Z sz55 Z Z (onesOf (Oc Z (Oc Z (Oc (Ow d) Oz)))) Z Z Z) Z ?_))
 rintro _ _ _ - ⟨rfl,rfl⟩
 exact Nt (Cr (Qb (Dr (Rd h [c] (fun _ hs=>hs.drop) (resultsL1 Z (Rc (cs:=(l55 e a)) 0 ag55 sz55 Z Z Z)) g ⟨a,c,Z,Z,d⟩))))
noncomputable def f_rpc_Copy_l0 (a0:T_api_Rpc) (s_:((List T_api_Batch)×Int)):Option (((List T_api_Batch)×Int)⊕(List T_api_Batch)):=
 match s_ with
 |(b,a)=>
 (if(decide (a<(a0.Batches.length:Int)))=true then(grd (0≤a∧a<a0.Batches.length) ((f_batch_Copy (rd a0.Batches a)).bind fun c=>(grd (b.length+[c].length≤274877906944) (some (inl (b++[c],i64.wrap (a+(1:Int))))))))else(some (inr b)))
noncomputable def f_rpc_Copy (a0:T_api_Rpc):Option T_api_Rpc:=
 ((f_slices_Clone_byte_byte a0.Data).bind fun a=>((((iter (f_rpc_Copy_l0 a0) ([],(0:Int))).bind (fun(b:(List T_api_Batch))=>(some b))):Option (List T_api_Batch)).bind fun c=>(some (⟨a0.Kind,a0.From,a0.To,a0.Term,a0.Pre,a0.Ok,a0.Leader,a0.At,a0.AtTerm,a0.High,a0.Code,c,a0.Size,a0.Pos,a⟩:T_api_Rpc))))
def f_rpc_Copy_post (a0:T_api_Rpc) (f g:Value):T_api_Rpc→Value→IM→HL→Prop:=
 fun(a:T_api_Rpc) (v:Value) (M':IM) (H':HL)=>∃ b c d e,(.agg #[(.int .i64 a.Kind),(.int .i64 a.From),(.int .i64 a.To),(.int .i64 a.Term),(.bool a.Pre),(.bool a.Ok),(.int .i64 a.Leader),(.int .i64 a.At),(.int .i64 a.AtTerm),(.int .i64 a.High),(.int .i64 a.Code),b,(.int .i64 a.Size),(.int .i64 a.Pos),d])=v∧H'=[c,e]∧OwnS kd_api_Batch M' b a.Batches c∧OwnS (Kd.int .u8) M' d a.Data e
theorem f_rpc_Copy_ok (a0:T_api_Rpc) (M:IM) (a f:Value) (g:RS kd_api_Batch M a a0.Batches) (S:RS (Kd.int .u8) M f a0.Data) (res:T_api_Rpc) (h:f_rpc_Copy a0=some res):
 Tri prog 18 #[(a25_ a0 a f)] M [] (f_rpc_Copy_post a0 a f res):=by
 unfold f_rpc_Copy at h
 refine Te func18 Z Z ?_
 intro F ρ hρ
 refine Sr (We (box (cs:=(l25 a0 a f).toArray) (congrArg Value.cells (asE (a25_ a0 a f) (hρ 0)))) Z ?_)
 rintro _ _ _ - ⟨rfl,m,rfl,rfl⟩
 refine We (Al ze25 Z) Z ?_
 rintro _ _ _ - ⟨rfl,O,rfl,rfl⟩
 refine Ns (qu (pt m 14) (Fa fo25_14 Z Z) (qu f (Lb 1 pl23 Z Z Z) ?_))
 obtain ⟨b1,X,h⟩:=bnd h
 refine We (Ca co54 (f_slices_Clone_byte_byte_ok a0.Data _ _ S b1 X) (args1 Z)) Z ?_
 rintro _ Y _ I ⟨_,⟨d,t,rfl,rfl,k⟩,rfl⟩
 refine WL.a1 (qu (pt m 14) (Fa fo25_14 Z Z) (Wb (We (Es d ((l25 a0 a d)) k.cells sz23 Z Z (Ow k) Z Z (by kernel_rfl)) Z ?_)))
 rintro _ _ _ - ⟨rfl,rfl⟩
 refine Ns (qa Zs (Nt ?_))
 obtain ⟨T,a2,h⟩:=bnd h
 refine Jf (fun(T:(List T_api_Batch)) ρ' M' H'=>∃ b o,Y.le M'∧[(m, .cells (l25 a0 a d).toArray 25 (0,0))]::[(O, .cells z25_.toArray 25 (0,0))]::o::t::F=H'∧ρ' 1=(pt m 0)∧ρ' 2=(pt O 0)∧ρ' 3=b∧OwnS kd_api_Batch M' b T o) T ?_ ?_
 have h:=a2
 refine Sr (qu (pt m 11) (Fa fo25_11 Z Z) (qu a (Lb 0 pl22 Z Z Z) ?_))
 have g:=g.mono I
 refine qu (Iv (a0.Batches.length:Int)) (lenS underlying22 Z g.len) (qm (Iv 0) (Nt (Bk (WC.e0 (WC.f2 (WC.f1 (WC.f3 (WC.f3 ?_))))))))
 obtain ⟨b8,a3,a4⟩:=bnd h
 clear h
 refine WC.loop a3 (fun(p_:((List T_api_Batch)×Int)) ρ' M' H'=>match p_ with |(J,e)=>∃ p u,Y.le M'∧[(m, .cells (l25 a0 a d).toArray 25 (0,0))]::[(O, .cells z25_.toArray 25 (0,0))]::u::t::F=H'∧ρ' 1=(pt m 0)∧ρ' 2=(pt O 0)∧ρ' 3=p∧ρ' 11=a∧ρ' 12=(Iv (a0.Batches.length:Int))∧ρ' 13=(Iv e)∧OwnS kd_api_Batch M' p J u) ?_ ?_
 exact⟨Zs,[],lr,Z,Z,Z,Z,Z,Z,Z,(OwnS.nil _ _)⟩
 rintro ⟨J,e⟩ b9 c0 c1 c2 h ⟨p,u,s,rfl,w,y,z,q,r,j,A⟩
 unfold f_rpc_Copy_l0 at h
 refine Sr (qu (Bv (decide (e<(a0.Batches.length:Int)))) (lss j r) (Nt (Cs (Ch h Z (fun a5 h=> ?_) (fun a5 h=> ?_)))))
 refine Ck (Tc (Cs (Bk (Sr ?_))))
 obtain ⟨B,h⟩:=grd_i h
 have g:=g.mono s
 obtain ⟨b2,b7,U,V,hhas41⟩:=g.at B.1 B.2 (by decide)
 obtain ⟨c,rfl,C⟩:=kd_api_Batch_open V
 refine qu (.pointer (some b2)) (indexAddr (n:=a0.Batches.length) underlying22 sz55 q j B.1 B.2 U) (qu (a55_ (rd a0.Batches e) c) (loadMA (cs:=(l55 (rd a0.Batches e) c)) ag55 sz55 Z hhas41) (We (Al ze55 Z) Z ?_))
 rintro _ _ _ - ⟨rfl,c3,rfl,rfl⟩
 refine We (Sg (v:=(a55_ (rd a0.Batches e) c)) (vl:=(l55 (rd a0.Batches e) c)) (arr':=(l55 (rd a0.Batches e) c)) Z sz55 Z Z (onesOf (Oc Z (Oc Z (Oc (RS.one C) Oz)))) Z Z Z) Z ?_
 rintro _ _ _ - ⟨rfl,rfl⟩
 refine Nt (Cg (qM p z (qu (a55_ (rd a0.Batches e) c) (La (cs:=(l55 (rd a0.Batches e) c)) 0 ag55 sz55 Z Z Z) ?_)))
 obtain ⟨l,a6,h⟩:=bnd h
 refine We (Ca co55 (f_batch_Copy_ok (rd a0.Batches e) _ _ C l a6) (args1 Z)) Z ?_
 rintro _ b3 _ K ⟨_,⟨i,P,rfl,rfl,Q⟩,rfl⟩
 refine WL.a1 (WL.know (fun _ hs=>Q.rs hs) (fun a7=> ?_))
 refine WL.freeze (fun L=> ?_)
 refine We (buildSliceL (cl:=(l55 l i)) underlying22 iz55 Z (Pc (a55_ l i) Z Z Pz) Z) Z ?_
 rintro _ _ _ - ⟨rfl,a8,rfl,rfl⟩
 have b4:OwnS kd_api_Batch (b3.add P) (.slice (some ⟨a8,0,none⟩) 1 1) [l] [(a8, .cells (l55 l i).toArray 55 (0,0))]:=OwnS.rows (css:=[(l55 l i)]) (Rows.cons (kd_api_Batch_mk (x:=l) a7) Rows.nil) Z Z
 obtain ⟨a9,h⟩:=grd_i h
 refine WL.f4 ?_
 have A:=A.mono (K.trans L)
 refine We (append (dd:=kd_api_Batch) (xs:=J) (ys:=[l]) underlying22 underlying22 in55 Z (appB (by decide) a9) (by decide) Z Z A (b4.src 1 Z)) Z ?_
 rintro b0 _ _ - ⟨rfl,b5,rfl,b6⟩
 refine qa b0 (Wz (Bn (Tc (Cg (qu (Iv (i64.wrap (e+1))) (add j Z) (qm (Iv (i64.wrap (e+1))) (Wz (Qa (Dr (Qa (Dr ?_)))))))))))
 exact WQ.f3 (Qa (WQ.f3 (WQ.f3 (WQ.again (J++[l],i64.wrap (e+1)) (oi h).symm ⟨b0,b5,((s.trans K).trans L),Z,w,y,Z,q,r,Z,b6⟩))))
 refine WC.exit (WQ.thenE (WQ.leaveE J (oi h).symm (fun W=> ?_)))
 subst W
 have h:=a4
 refine WQ.blockH ?_
 obtain rfl:=oi h
 exact Tj ⟨p,u,s,Z,w,y,z,A⟩
 rintro c4 c5 c6 ⟨b,o,N,rfl,D,E,R,G⟩
 refine Sr (qM b R (qu (pt m 11) (Fa fo25_11 D Z) (We (Es b ((l25 a0 b d)) G.cells sz22 Z Z (Ow G) Z Z (by kernel_rfl)) Z ?_)))
 rintro _ _ _ - ⟨rfl,rfl⟩
 refine Ns (qu (a25_ a0 b d) (La (cs:=(l25 a0 b d)) 0 ag25 sz25 D Z Z) (WL.f1 ?_))
 have k:=k.mono N
 refine We (Sg (v:=(a25_ a0 b d)) (vl:=(l25 a0 b d)) (arr':=(l25 a0 b d)) Z sz25 E Z (onesOf (Oc Z (Oc Z (Oc Z (Oc Z (Oc Z (Oc Z (Oc Z (Oc Z (Oc Z (Oc Z (Oc Z (Oc (Ow G) (Oc Z (Oc Z (Oc (Ow k) Oz)))))))))))))))) Z Z (by kernel_rfl)) Z ?_
 rintro _ _ _ - ⟨rfl,rfl⟩
 exact Nt (Cr (Qa (Dr (Rd h [o,t] (fun _ hs=>hs.drop) (resultsL1 Z (Rc (cs:=(l25 a0 b d)) 0 ag25 sz25 E Z Z)) (I.trans N) ⟨b,o,d,t,Z,Z,G,k⟩))))

end Go.Proofs.YtkflneabcannnaaGreatDoor.G
